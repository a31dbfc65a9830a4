/- At every profile, numbers and speeds the law FnExactRunOk answers true. Conditions: the lists' lengths are such as fit into memory. -/
import Derived.Test.YtgakkndbcilclaaPBx0
import Derived.Test.YtgakkndbcilclaaPBx26
import Derived.Test.YtgakkndbcilclaaPrXi
import Derived.Test.YtgakkndbcilclaaPrR
set_option linter.unusedVariables false
set_option linter.unusedSimpArgs false
namespace Go.Proofs.Ytgakkndbcilclaa.Pure
open Go.RowKit Go.Proofs.YtgakkndbcilclaaW.PrintWords Go.Proofs.YtgakkndbcilclaaW.PrintLast Go.Proofs.Ytgakkndbcilclaa.PB Go.Proofs.Ytgakkndbcilclaa.M
theorem FnExactRunOk (l0 : List S107) (l1 : List S109) (a b c : Int) (acc x short : Int) (ws : List Int) (h0 : l0.length ≤ 10000000000000) (h1 : l1.length ≤ 10000000000000) (h2 : ws.length ≤ 100000000000000) : Ev (fun k => laws_FnExactRunOk.f k l0 l1 a b c acc x short ws) true := by
  simp only [laws_FnExactRunOk.f]
  by_cases hc : (ws.length : Int) > 1048576
  · exact pos_ hc (now_ rfl)
  refine neg_ hc ?_
  rcases sz_or l0 l1 a b c h0 h1 with e | ⟨t, e, ht, n0, n1⟩
  · exact bindc e (pos_ (by decide) (now_ rfl))
  refine bindc e (neg_ (by omega) ?_)
  have cp := ev_toProfile (l0 := l0) (l1 := l1) (by omega) (by omega) a b c
  have m0 : (cpP l0).length ≤ 2000000 := by rw [cpP_len]; omega
  have m1 : (cpZ l1).length ≤ 2000000 := by rw [cpZ_len]; omega
  have mw : ws.length ≤ 2000000 := by omega
  have ci := ev_toIntS ws mw
  have hi := ev_RunOk (P := ⟨cpP l0, cpZ l1, a, b, c⟩) acc x short ws
  have hs := ev_sRunOk (P := ⟨cpP l0, cpZ l1, a, b, c⟩) acc x short ws
  refine Ev.bind cp (Ev.bind ci (Ev.bind hs (Ev.bind cp (Ev.bind ci (Ev.bind hi (neg_ (by simp) ?_))))))
  exact Ev.bind cp (Ev.bind (ev_eqProfile _ _ m0 m1 a b c) (pos_ rfl (Ev.bind ci (Ev.bind (ev_eqIntS ws mw) (pos_ rfl (now_ rfl))))))
end Go.Proofs.Ytgakkndbcilclaa.Pure
