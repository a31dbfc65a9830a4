/- At every profile and step the law FnExactCurve answers true. Conditions: the lists' lengths are such as fit into memory, the step is an int. -/
import Derived.Test.YtgakkndbcilclaaPAx0
import Derived.Test.YtgakkndbcilclaaPAx47
import Derived.Test.YtgakkndbcilclaaPrXv
import Derived.Test.YtgakkndbcilclaaPrVs
set_option linter.unusedVariables false
set_option linter.unusedSimpArgs false
namespace Go.Proofs.Ytgakkndbcilclaa.Pure
open Go.RowKit Go.Proofs.YtgakkndbcilclaaW.PrintWords Go.Proofs.YtgakkndbcilclaaW.PrintLast Go.Proofs.Ytgakkndbcilclaa.PA Go.Proofs.Ytgakkndbcilclaa.M
theorem FnExactCurve (l0 : List S107) (l1 : List S109) (a b c : Int) (x : Int) (h0 : l0.length ≤ 10000000000000) (h1 : l1.length ≤ 10000000000000) (hx : x ≤ 9223372036854775807) : Ev (fun k => laws_FnExactCurve.f k l0 l1 a b c x) true := by
  simp only [laws_FnExactCurve.f]
  rcases sz_or l0 l1 a b c h0 h1 with e | ⟨t, e, ht, n0, n1⟩
  · exact bindc e (pos_ (by decide) (now_ rfl))
  refine bindc e (neg_ (by omega) ?_)
  have cp := ev_toProfile (l0 := l0) (l1 := l1) (by omega) (by omega) a b c
  have m0 : (cpP l0).length ≤ 2000000 := by rw [cpP_len]; omega
  have m1 : (cpZ l1).length ≤ 2000000 := by rw [cpZ_len]; omega
  have hc := ev_CurveV (P := ⟨cpP l0, cpZ l1, a, b, c⟩) x hx
  have hs := ev_sCurveV (P := ⟨cpP l0, cpZ l1, a, b, c⟩) x hx
  have hl := curveV_length (P := ⟨cpP l0, cpZ l1, a, b, c⟩) x
  generalize PR.curveV ⟨cpP l0, cpZ l1, a, b, c⟩ x = L at hc hs hl
  obtain ⟨r, hr, r1, r2⟩ := ev_markProfile (cpP l0) (cpZ l1) m0 m1 a b c
  refine Ev.bind cp (Ev.bind hs (Ev.bind cp (Ev.bind hc (Ev.bind (ev_eqPointS L (by omega)) (pos_ rfl (Ev.bind cp (Ev.bind (ev_eqProfile _ _ m0 m1 a b c) (pos_ rfl (Ev.bind hr (neg_ (by omega) (Ev.bind (ev_eqPointS L (by omega)) ?_)))))))))))
  refine Ev.step (fun k => by rw [laws_FnExactCurve.j0]) (neg_ (by decide) (Ev.bind (ev_markPointS L (by omega)) ?_))
  refine Ev.bind (ev_heldPointS L.length (by omega)) (neg_ (by omega) (pos_ rfl ?_))
  refine Ev.bind cp (Ev.bind hc (Ev.bind (ev_eqPointS L (by omega)) (pos_ rfl (Ev.bind (ev_heldPointS L.length (by omega)) ?_))))
  exact neg_ (by omega) (pos_ rfl (now_ rfl))
end Go.Proofs.Ytgakkndbcilclaa.Pure
