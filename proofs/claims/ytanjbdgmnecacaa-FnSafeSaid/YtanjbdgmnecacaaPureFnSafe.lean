/- At every list of bytes the law FnSafe answers true: all speeds up to MostNow are safe, one more is not, and from a safe move on the train stands within its end. Conditions: the list holds bytes and fits into memory. -/
import Derived.Test.YtanjbdgmnecacaaPAx23
import Derived.Test.YtanjbdgmnecacaaPrM
import Derived.Test.YtanjbdgmnecacaaPrCs
import Derived.Test.YtanjbdgmnecacaaPrDw
import Derived.Test.YtanjbdgmnecacaaPrBy
import Derived.Test.YtanjbdgmnecacaaSized
set_option linter.unusedVariables false
set_option linter.unusedSimpArgs false
namespace Go.Proofs.Ytanjbdgmnecacaa.Pure
open Go.RowKit Go.Proofs.YtanjbdgmnecacaaW.PrintWords Go.Proofs.YtanjbdgmnecacaaW.PrintLast Go.Proofs.Ytanjbdgmnecacaa.PA Go.Proofs.Ytanjbdgmnecacaa.M
theorem FnSafe : laws_FnSafe.Pure := by
  intro l _ _ hw
  refine Ev.rounds ?_
  simp only [laws_FnSafe.f]
  by_cases hc : (l.length : Int) > 1048576
  · exact pos_ hc (now_ rfl)
  refine neg_ hc ?_
  obtain ⟨sc, P, x, ws, hE, hsc, hD, hx0, hx1, hws⟩ := dr_Profiles hw
  have hg := hD.good
  have hok : P.ok x := ⟨hg, hx0, by have := hg.en1; omega⟩
  have hB := okB_iff.mpr hok
  have hmn : P.mostNow x = P.most x := by unfold PR.mostNow; rw [if_pos hB]
  obtain ⟨m0, m1, m2, m3⟩ := most_spec hg hx1
  have hM := ev_MostNow (P := P) x
  have hsM := ev_sMostNow (P := P) x
  rw [hmn] at hM hsM
  refine Ev.bind hE ?_
  simp only
  refine Ev.bind hM ?_
  generalize P.most x = m at *
  have hR : ∀ y, 0 ≤ P.R y := fun y => by have := hg.R y; omega
  have hsafe : ∀ v, 0 ≤ v → v ≤ m → P.safe x v = true := by
    intro v h0 h1
    unfold PR.safe; rw [hB, m3 v h0 h1, decide_eq_true h0, decide_eq_true (show v ≤ 10000 by omega)]; rfl
  have hde0 := hg.de0
  have hde1 := hg.de1
  have ht := hg.tot
  have hen := hg.en1
  have loop : ∀ d : Nat, ∀ i : Int, 0 ≤ i → i + d = 12 → Ev (fun k => laws_FnSafe.l0 k l x m i P.ps P.zs P.tr P.en P.de) true := by
    intro d
    induction d with
    | zero =>
      intro i h0 h1
      refine Ev.step (fun k => by rw [laws_FnSafe.l0]) (neg_ (by omega) (Ev.bind hsM (now_ ?_)))
      simp
    | succ d ih =>
      intro i h0 h1
      obtain ⟨b, eb, b0, b1⟩ := wByte_some l hw i h0
      refine Ev.step (fun k => by rw [laws_FnSafe.l0]) (pos_ (by omega) (bindc eb ?_))
      have p0 : 0 ≤ m * b := Int.mul_nonneg m0 b0
      have p1 : m * b ≤ m * 255 := Int.mul_le_mul_of_nonneg_left b1 m0
      rw [w64 (a := m * b) (by omega) (by omega), Int.tdiv_eq_ediv_of_nonneg p0, w64 (a := m * b / 255) (by omega) (by omega)]
      have v0 : 0 ≤ m * b / 255 := by omega
      have v1 : m * b / 255 ≤ m := by omega
      generalize m * b / 255 = v at *
      have hs := hsafe v v0 v1
      have hES := ev_Safe (P := P) x v
      have hEs := ev_sSafe (P := P) x v
      rw [hs] at hES hEs
      refine Ev.bind hES (pos_ rfl (Ev.bind hEs ?_))
      refine Ev.step (fun k => by rw [laws_FnSafe.j2]) (neg_ (by decide) ?_)
      have next : Ev (fun k => laws_FnSafe.l0 k l x m (wrap64 (i + 1)) P.ps P.zs P.tr P.en P.de) true := by
        rw [w64 (a := i + 1) (by omega) (by omega)]; exact ih (i + 1) (by omega) (by omega)
      by_cases c : v > 0
      · refine pos_ c ?_
        have hf := sf_far hR hde0 v0 (m3 v v0 v1)
        have q0 : 0 ≤ v * (P.de + 1) := Int.mul_nonneg v0 (by omega)
        rw [w64 (a := P.de + 1) (by omega) (by omega), w64 (a := v * (P.de + 1)) (by omega) (by omega), w64 (a := x + v * (P.de + 1)) (by omega) (by omega)]
        exact neg_ (by omega) next
      · exact neg_ c next
  have last : Ev (fun k => laws_FnSafe.j0 k l x m false P.ps P.zs P.tr P.en P.de) true :=
    Ev.step (fun k => by rw [laws_FnSafe.j0]) (neg_ (by decide) (loop 12 0 (by omega) (by omega)))
  have hE0 := ev_Safe (P := P) x 0
  rw [hsafe 0 (by omega) m0] at hE0
  refine neg_ (by omega) (neg_ (by omega) ?_)
  by_cases c : m < 10000
  · refine pos_ c ?_
    rw [w64 (a := m + 1) (by omega) (by omega)]
    have hE1 := ev_Safe (P := P) x (m + 1)
    have hf : P.safe x (m + 1) = false := by unfold PR.safe; rw [m2 c, Bool.and_false]
    rw [hf] at hE1
    exact Ev.bind hE1 (neg_ (by decide) (Ev.bind hE0 last))
  · exact neg_ c (Ev.bind hE0 last)
end Go.Proofs.Ytanjbdgmnecacaa.Pure
