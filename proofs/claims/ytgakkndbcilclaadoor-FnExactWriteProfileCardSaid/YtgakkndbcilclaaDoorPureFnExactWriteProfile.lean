/- At every profile the law FnExactWriteProfile answers true: both codes write the same plain text. Conditions: the lists' lengths are such as fit into memory. -/
import Derived.Test.YtgakkndbcilclaaDoorPAx0
import Derived.Test.YtgakkndbcilclaaDoorPAx13
import Derived.Test.YtgakkndbcilclaaDoorPAx19
import Derived.Test.YtgakkndbcilclaaDoorPrX
import Derived.Test.YtgakkndbcilclaaDoorPrY
set_option linter.unusedVariables false
set_option linter.unusedSimpArgs false
namespace Go.Proofs.YtgakkndbcilclaaDoor.Pure
open Go.RowKit Go.Proofs.YtgakkndbcilclaaDoorW.PrintWords Go.Proofs.YtgakkndbcilclaaDoorW.PrintLast Go.Proofs.YtgakkndbcilclaaDoor.PA Go.Proofs.YtgakkndbcilclaaDoor.M
theorem FnExactWriteProfile (l0 : List S60) (l1 : List S62) (a b c : Int) (h0 : l0.length ≤ 10000000000000) (h1 : l1.length ≤ 10000000000000) : Ev (fun k => laws_FnExactWriteProfile.f k l0 l1 a b c) true := by
  simp only [laws_FnExactWriteProfile.f]
  rcases sz_or l0 l1 a b c h0 h1 with e | ⟨t, e, ht, n0, n1⟩
  · exact bindc e (pos_ (by decide) (now_ rfl))
  refine bindc e (neg_ (by omega) ?_)
  have cp := ev_toProfile (l0 := l0) (l1 := l1) (by omega) (by omega) a b c
  refine Ev.bind cp (Ev.bind (ev_sWrite (cpP l0) (cpZ l1) a b c) (Ev.bind cp (bindc (show impl_WriteProfile.f (cpP l0) (cpZ l1) a b c = some _ from rfl) (pos_ rfl (Ev.bind cp (Ev.bind (ev_eqProfile _ _ ?_ ?_ a b c) (pos_ rfl (now_ rfl))))))))
  · rw [cpP_len]; omega
  · rw [cpZ_len]; omega
end Go.Proofs.YtgakkndbcilclaaDoor.Pure
