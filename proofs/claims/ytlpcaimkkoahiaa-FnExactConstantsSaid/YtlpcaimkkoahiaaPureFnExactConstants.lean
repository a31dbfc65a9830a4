/- Every exported constant of the program has the value that the document gives it. No condition. -/
import Derived.Test.YtlpcaimkkoahiaaPFnExactConstantsx0
import Derived.Test.YtlpcaimkkoahiaaPFnExactConstantsx1
import Derived.Test.YtlpcaimkkoahiaaMath
set_option linter.unusedVariables false
set_option linter.unusedSimpArgs false
namespace Go.Proofs.Ytlpcaimkkoahiaa.Pure
open Go.RowKit Go.Proofs.Ytlpcaimkkoahiaa.PFnExactConstants Go.Proofs.YtlpcaimkkoahiaaW.PrintWords Go.Proofs.YtlpcaimkkoahiaaW.PrintLast Go.Proofs.Ytlpcaimkkoahiaa.M


theorem FnExactConstants : laws_FnExactConstants.Pure := by
  unfold laws_FnExactConstants.Pure laws_FnExactConstants.f
  rfl

end Go.Proofs.Ytlpcaimkkoahiaa.Pure
