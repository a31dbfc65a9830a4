/- At every profile and numbers the law FnExactFastest answers true. Conditions: the lists' lengths are such as fit into memory. -/
import Derived.Test.YtgakkndbcilclaaPGx0
import Derived.Test.YtgakkndbcilclaaPGx29
import Derived.Test.YtgakkndbcilclaaPrXw
import Derived.Test.YtgakkndbcilclaaPrH
set_option linter.unusedVariables false
set_option linter.unusedSimpArgs false
namespace Go.Proofs.Ytgakkndbcilclaa.Pure
open Go.RowKit Go.Proofs.YtgakkndbcilclaaW.PrintWords Go.Proofs.YtgakkndbcilclaaW.PrintLast Go.Proofs.Ytgakkndbcilclaa.PG Go.Proofs.Ytgakkndbcilclaa.M
section
theorem fast_len (P : PR) (acc x sh : Int) : (P.fast acc x sh).2.2.length ≤ 2000 := by
  unfold PR.fast
  split
  · rename_i h
    split
    · simp
    · simp only [Gr.path_len]; omega
  · simp
theorem FnExactFastest (l0 : List S107) (l1 : List S109) (a b c : Int) (acc x sh : Int) (h0 : l0.length ≤ 10000000000000) (h1 : l1.length ≤ 10000000000000) : Ev (fun k => laws_FnExactFastest.f k l0 l1 a b c acc x sh) true := by
  simp only [laws_FnExactFastest.f]
  rcases sz_or l0 l1 a b c h0 h1 with e | ⟨t, e, ht, n0, n1⟩
  · exact bindc e (pos_ (by decide) (now_ rfl))
  refine bindc e (neg_ (by omega) ?_)
  have cp := ev_toProfile (l0 := l0) (l1 := l1) (by omega) (by omega) a b c
  have m0 : (cpP l0).length ≤ 2000000 := by rw [cpP_len]; omega
  have m1 : (cpZ l1).length ≤ 2000000 := by rw [cpZ_len]; omega
  have hw := ev_iFast (P := ⟨cpP l0, cpZ l1, a, b, c⟩) acc x sh
  have hs := ev_sFast (P := ⟨cpP l0, cpZ l1, a, b, c⟩) acc x sh
  have hl := fast_len ⟨cpP l0, cpZ l1, a, b, c⟩ acc x sh
  generalize PR.fast ⟨cpP l0, cpZ l1, a, b, c⟩ acc x sh = L at hw hs hl
  obtain ⟨o, tk, sp⟩ := L
  simp only at hl
  obtain ⟨r, hr, r1, r2⟩ := ev_markProfile (cpP l0) (cpZ l1) m0 m1 a b c
  have eqw := ev_eqRun o tk sp (by omega)
  have hd := ev_heldRun o tk sp.length (by omega)
  refine Ev.bind cp (Ev.bind hs (Ev.bind cp (Ev.bind hw (Ev.bind eqw (pos_ rfl (Ev.bind cp (Ev.bind (ev_eqProfile _ _ m0 m1 a b c) (pos_ rfl (Ev.bind hr ?_)))))))))
  refine neg_ (by omega) (Ev.bind eqw ?_)
  refine Ev.step (fun k => by rw [laws_FnExactFastest.j0]) (neg_ (by decide) (Ev.bind (ev_markRun o tk sp (by omega)) ?_))
  refine Ev.bind hd (neg_ (by omega) (pos_ rfl ?_))
  refine Ev.bind cp (Ev.bind hw (Ev.bind eqw (pos_ rfl (Ev.bind hd ?_))))
  exact neg_ (by omega) (pos_ rfl (now_ rfl))
end
end Go.Proofs.Ytgakkndbcilclaa.Pure
