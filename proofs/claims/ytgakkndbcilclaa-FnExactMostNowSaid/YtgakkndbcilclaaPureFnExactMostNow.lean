/- At every profile and number the law FnExactMostNow answers true: both codes are the same plain function. Conditions: the lists' lengths are such as fit into memory. -/
import Derived.Test.YtgakkndbcilclaaPAx0
import Derived.Test.YtgakkndbcilclaaPAx38
import Derived.Test.YtgakkndbcilclaaPrX
import Derived.Test.YtgakkndbcilclaaPrM
set_option linter.unusedVariables false
set_option linter.unusedSimpArgs false
namespace Go.Proofs.Ytgakkndbcilclaa.Pure
open Go.RowKit Go.Proofs.YtgakkndbcilclaaW.PrintWords Go.Proofs.YtgakkndbcilclaaW.PrintLast Go.Proofs.Ytgakkndbcilclaa.PA Go.Proofs.Ytgakkndbcilclaa.M
theorem FnExactMostNow (l0 : List S107) (l1 : List S109) (a b c : Int) (x : Int) (h0 : l0.length ≤ 10000000000000) (h1 : l1.length ≤ 10000000000000) : Ev (fun k => laws_FnExactMostNow.f k l0 l1 a b c x) true := by
  simp only [laws_FnExactMostNow.f]
  rcases sz_or l0 l1 a b c h0 h1 with e | ⟨t, e, ht, n0, n1⟩
  · exact bindc e (pos_ (by decide) (now_ rfl))
  refine bindc e (neg_ (by omega) ?_)
  have cp := ev_toProfile (l0 := l0) (l1 := l1) (by omega) (by omega) a b c
  refine Ev.bind cp (Ev.bind (ev_sMostNow (P := ⟨cpP l0, cpZ l1, a, b, c⟩) x) (Ev.bind cp (Ev.bind (ev_MostNow (P := ⟨cpP l0, cpZ l1, a, b, c⟩) x) (pos_ rfl (Ev.bind cp (Ev.bind (ev_eqProfile _ _ ?_ ?_ a b c) (pos_ rfl (now_ rfl))))))))
  · rw [cpP_len]; omega
  · rw [cpZ_len]; omega
end Go.Proofs.Ytgakkndbcilclaa.Pure
