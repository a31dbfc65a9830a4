/- At every profile, place, speed and wishes the law FnExactWatch answers true. Conditions: the lists' lengths are such as fit into memory. -/
import Derived.Test.YtgakkndbcilclaaPAx0
import Derived.Test.YtgakkndbcilclaaPAx55
import Derived.Test.YtgakkndbcilclaaPrXw
import Derived.Test.YtgakkndbcilclaaPrW
set_option linter.unusedVariables false
set_option linter.unusedSimpArgs false
namespace Go.Proofs.Ytgakkndbcilclaa.Pure
open Go.RowKit Go.Proofs.YtgakkndbcilclaaW.PrintWords Go.Proofs.YtgakkndbcilclaaW.PrintLast Go.Proofs.Ytgakkndbcilclaa.PA Go.Proofs.Ytgakkndbcilclaa.M
section
theorem watch_len (P : PR) (x v : Int) (ws : List Int) : (P.watch x v ws).2.1.length ≤ 500 := by
  unfold PR.watch
  split
  · rename_i h
    have := M.wrun_length (R := P.R) (O := P.O) (en := P.en) (de := P.de) ws true v x 0 x
    unfold PR.wrun
    simp only
    omega
  · simp
theorem FnExactWatch (l0 : List S107) (l1 : List S109) (a b c : Int) (x v : Int) (ws : List Int) (h0 : l0.length ≤ 10000000000000) (h1 : l1.length ≤ 10000000000000) (h2 : ws.length ≤ 100000000000000) : Ev (fun k => laws_FnExactWatch.f k l0 l1 a b c x v ws) true := by
  simp only [laws_FnExactWatch.f]
  by_cases hc : (ws.length : Int) > 1048576
  · exact pos_ hc (now_ rfl)
  refine neg_ hc ?_
  rcases sz_or l0 l1 a b c h0 h1 with e | ⟨t, e, ht, n0, n1⟩
  · exact bindc e (pos_ (by decide) (now_ rfl))
  refine bindc e (neg_ (by omega) ?_)
  have cp := ev_toProfile (l0 := l0) (l1 := l1) (by omega) (by omega) a b c
  have m0 : (cpP l0).length ≤ 2000000 := by rw [cpP_len]; omega
  have m1 : (cpZ l1).length ≤ 2000000 := by rw [cpZ_len]; omega
  have mw : ws.length ≤ 2000000 := by omega
  have hw := ev_Watch (P := ⟨cpP l0, cpZ l1, a, b, c⟩) x v ws
  have hs := ev_sWatch (P := ⟨cpP l0, cpZ l1, a, b, c⟩) x v ws
  have hl := watch_len ⟨cpP l0, cpZ l1, a, b, c⟩ x v ws
  generalize PR.watch ⟨cpP l0, cpZ l1, a, b, c⟩ x v ws = L at hw hs hl
  obtain ⟨o, sp, br, at_⟩ := L
  simp only at hl
  obtain ⟨r, hr, r1, r2⟩ := ev_markProfile (cpP l0) (cpZ l1) m0 m1 a b c
  have hm := ev_markIntS ws mw r.1 (by omega) (by omega)
  have ci := ev_toIntS ws mw
  have eqw := ev_eqWatched o sp br at_ (by omega)
  have hd := ev_heldWatched o sp.length br at_ (by omega)
  refine Ev.bind cp (Ev.bind ci (Ev.bind hs (Ev.bind cp (Ev.bind ci (Ev.bind hw (Ev.bind eqw (pos_ rfl (Ev.bind cp (Ev.bind (ev_eqProfile _ _ m0 m1 a b c) (pos_ rfl (Ev.bind ci (Ev.bind (ev_eqIntS ws mw) (pos_ rfl (Ev.bind hr (Ev.bind hm ?_)))))))))))))))
  refine neg_ (by simp only; omega) (Ev.bind eqw ?_)
  refine Ev.step (fun k => by rw [laws_FnExactWatch.j0]) (neg_ (by decide) (Ev.bind (ev_markWatched o sp br at_ (by omega)) ?_))
  refine Ev.bind hd (neg_ (by omega) (pos_ rfl ?_))
  refine Ev.bind cp (Ev.bind ci (Ev.bind hw (Ev.bind eqw (pos_ rfl (Ev.bind hd ?_)))))
  exact neg_ (by omega) (pos_ rfl (now_ rfl))
end
end Go.Proofs.Ytgakkndbcilclaa.Pure
