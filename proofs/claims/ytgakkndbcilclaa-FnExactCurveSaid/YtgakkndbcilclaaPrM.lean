/- Greatest speeds: MostNow of the program and of the reference are one plain function. Condition: the profile is right where a lemma says so. -/
import Derived.Test.YtgakkndbcilclaaPAx36
import Derived.Test.YtgakkndbcilclaaPAx37
import Derived.Test.YtgakkndbcilclaaPrC
set_option linter.unusedVariables false
set_option linter.unusedSimpArgs false
namespace Go.Proofs.Ytgakkndbcilclaa.Pure
open Go.RowKit Go.Proofs.YtgakkndbcilclaaW.PrintWords Go.Proofs.YtgakkndbcilclaaW.PrintLast Go.Proofs.Ytgakkndbcilclaa.PA Go.Proofs.Ytgakkndbcilclaa.M
def PR.most (P : PR) (x : Int) : Int := mostA (fun v => P.sf x v 0) (-1) 10001
def PR.mostNow (P : PR) (x : Int) : Int := if P.okB x = true then P.most x else -1
theorem mostA_t {S : Int → Bool} {v : Int} {d : Nat} (h : S (v + 1) = true) : mostA S v (d + 1) = mostA S (v + 1) d := by simp only [mostA]; rw [if_pos h]
theorem mostA_f {S : Int → Bool} {v : Int} {d : Nat} (h : S (v + 1) = false) : mostA S v (d + 1) = v := by simp only [mostA]; rw [if_neg (by rw [h]; decide)]
section
variable {P : PR}
theorem ev_mostNow_l0 (hg : Good P) {x : Int} (h0 : 0 ≤ x) (h1 : x ≤ 200000000) (d : Nat) : ∀ v : Int, -1 ≤ v → v + (d : Int) = 10000 →
    Ev (fun k => impl_mostNow.l0 k x v P.ps P.zs P.tr P.en P.de) (mostA (fun v => P.sf x v 0) v d) := by
  induction d with
  | zero =>
    intro v h2 h3
    refine Ev.step (fun k => by rw [impl_mostNow.l0]) (neg_ (by omega) (now_ ?_))
    rfl
  | succ d ih =>
    intro v h2 h3
    refine Ev.step (fun k => by rw [impl_mostNow.l0]) (pos_ (by omega) ?_)
    rw [w64 (a := v + 1) (by omega) (by omega)]
    refine Ev.bind (ev_safe hg h0 h1 (by omega) (by omega)) ?_
    by_cases c : P.sf x (v + 1) 0 = true
    · rw [mostA_t (S := fun v => P.sf x v 0) c, c]; exact pos_ rfl (ih (v + 1) (by omega) (by omega))
    · rw [Bool.not_eq_true] at c
      rw [mostA_f (S := fun v => P.sf x v 0) c, c]; exact neg_ (by decide) (now_ rfl)
theorem ev_mostNow (hg : Good P) {x : Int} (h0 : 0 ≤ x) (h1 : x ≤ 200000000) : Ev (fun k => impl_mostNow.f k P.ps P.zs P.tr P.en P.de x) (P.most x) := by
  simp only [impl_mostNow.f]
  exact ev_mostNow_l0 hg h0 h1 10001 (-1) (by omega) (by omega)
theorem most_spec (hg : Good P) {x : Int} (hx : x ≤ P.en) : 0 ≤ P.most x ∧ P.most x ≤ 10000 ∧ (P.most x < 10000 → P.sf x (P.most x + 1) 0 = false) ∧ (∀ u, 0 ≤ u → u ≤ P.most x → P.sf x u 0 = true) := by
  obtain ⟨h1, h2, h3, h4⟩ := mostA_spec (S := fun v => P.sf x v 0) 10001 (-1) (by omega)
  have hz : P.sf x 0 0 = true := by unfold PR.sf; rw [sf_zero]; exact decide_eq_true hx
  have h5 : P.most x ≠ -1 := by
    intro e
    have h6 : P.most x < 10000 → P.sf x (P.most x + 1) 0 = false := h3
    rw [e] at h6
    have := h6 (by omega)
    rw [show (-1 : Int) + 1 = 0 by rfl, hz] at this; cases this
  have h1' : -1 ≤ P.most x := h1
  exact ⟨by omega, h2, h3, fun u h7 h8 => h4 u (by omega) h8⟩
theorem ev_MostNow (x : Int) : Ev (fun k => impl_MostNow.f k P.ps P.zs P.tr P.en P.de x) (P.mostNow x) := by
  simp only [impl_MostNow.f]
  unfold PR.mostNow
  by_cases c : P.okB x = true
  · have ho := okB_iff.mp c
    rw [if_pos c]
    exact Ev.bind (ev_right_t P ho) (pos_ rfl (Ev.bind (ev_mostNow ho.1 ho.2.1 (ok_le ho)) (now_ rfl)))
  · rw [if_neg c]
    exact Ev.bind (ev_right_f P (fun z => c (okB_iff.mpr z))) (neg_ (by decide) (now_ rfl))
theorem ev_l3most_l0 (hg : Good P) {x : Int} (h0 : 0 ≤ x) (h1 : x ≤ 200000000) (d : Nat) : ∀ v : Int, -1 ≤ v → v + d = 10000 →
    Ev (fun k => spec_l3most.l0 k x (v + 1) P.ps P.zs P.tr P.en P.de) (mostA (fun v => P.sf x v 0) v d) := by
  induction d with
  | zero =>
    intro v h2 h3
    refine Ev.step (fun k => by rw [spec_l3most.l0]) (neg_ (by omega) (now_ ?_))
    show 10000 = v
    omega
  | succ d ih =>
    intro v h2 h3
    refine Ev.step (fun k => by rw [spec_l3most.l0]) (pos_ (by omega) (Ev.bind (ev_l3safe hg h0 h1 (by omega) (by omega)) ?_))
    by_cases c : P.sf x (v + 1) 0 = true
    · rw [mostA_t (S := fun v => P.sf x v 0) c, c, w64 (a := v + 1 + 1) (by omega) (by omega)]; exact pos_ rfl (ih (v + 1) (by omega) (by omega))
    · rw [Bool.not_eq_true] at c
      rw [mostA_f (S := fun v => P.sf x v 0) c, c]
      refine neg_ (by decide) (now_ ?_)
      rw [w64 (by omega) (by omega)]; omega
theorem ev_l3most (hg : Good P) {x : Int} (h0 : 0 ≤ x) (h1 : x ≤ 200000000) : Ev (fun k => spec_l3most.f k P.ps P.zs P.tr P.en P.de x) (P.most x) := by
  simp only [spec_l3most.f]
  exact ev_l3most_l0 hg h0 h1 10001 (-1) (by omega) (by omega)
theorem ev_sMostNow (x : Int) : Ev (fun k => spec_MostNow.f k P.ps P.zs P.tr P.en P.de x) (P.mostNow x) := by
  simp only [spec_MostNow.f]
  unfold PR.mostNow
  refine Ev.bind ev_l3good ?_
  rw [show (decide ((0 : Int) ≤ 0) && decide ((0 : Int) ≤ 10000)) = true from rfl, Bool.and_true]
  by_cases c : P.okB x = true
  · have ho := okB_iff.mp c
    rw [c, if_pos rfl]
    exact pos_ rfl (Ev.bind (ev_l3most ho.1 ho.2.1 (ok_le ho)) (now_ rfl))
  · rw [if_neg c]
    rw [Bool.not_eq_true] at c
    rw [c]
    exact neg_ (by decide) (now_ rfl)
end
end Go.Proofs.Ytgakkndbcilclaa.Pure
