/- The program's SlowLen gives the reference's answer at all three arguments. No condition but that they are 64-bit numbers. -/
import Derived.Test.YtlpcaimkkoahiaaPFnExactSlowLenx0
import Derived.Test.YtlpcaimkkoahiaaPFnExactSlowLenx1
import Derived.Test.YtlpcaimkkoahiaaMath
set_option linter.unusedVariables false
set_option linter.unusedSimpArgs false
namespace Go.Proofs.Ytlpcaimkkoahiaa.Pure
open Go.RowKit Go.Proofs.Ytlpcaimkkoahiaa.PFnExactSlowLen Go.Proofs.YtlpcaimkkoahiaaW.PrintWords Go.Proofs.YtlpcaimkkoahiaaW.PrintLast Go.Proofs.Ytlpcaimkkoahiaa.M

theorem speed_t {v : Int} (h : 0 ≤ v ∧ v ≤ 10000) : impl_speed.f v = some true := by
  unfold impl_speed.f; rw [if_pos (by omega)]; simp; omega
theorem speed_f {v : Int} (h : ¬ (0 ≤ v ∧ v ≤ 10000)) : impl_speed.f v = some false := by
  unfold impl_speed.f; split
  · simp; omega
  · rfl
theorem brake_t {v : Int} (h : 10 ≤ v ∧ v ≤ 1000) : impl_brake.f v = some true := by
  unfold impl_brake.f; rw [if_pos (by omega)]; simp; omega
theorem brake_f {v : Int} (h : ¬ (10 ≤ v ∧ v ≤ 1000)) : impl_brake.f v = some false := by
  unfold impl_brake.f; split
  · simp; omega
  · rfl
theorem ev_SlowLen {v u b : Int} (hv : 0 ≤ v ∧ v ≤ 10000) (hu : 0 ≤ u ∧ u ≤ 10000) (hb : 10 ≤ b ∧ b ≤ 1000) : Ev (fun k => impl_SlowLen.f k v u b) (slen v u b) := by
  simp only [impl_SlowLen.f, speed_t hv, speed_t hu, brake_t hb, Option.bind_some, ↓reduceIte]
  refine Ev.step (f := fun _ => some (slen v u b)) (fun k => ?_) (Ev.now _)
  rw [impl_SlowLen.j0, if_neg (by decide)]
  by_cases c : v ≤ u
  · rw [if_pos c, slen_le c]
  · rw [if_neg c, if_neg (by omega)]
    have d := Int.mul_ediv_add_emod (v - u) b
    have m0 := Int.emod_nonneg (v - u) (show b ≠ 0 by omega)
    have m1 := Int.emod_lt_of_pos (v - u) (show 0 < b by omega)
    have q0 : 0 ≤ (v - u) / b := Int.ediv_nonneg (by omega) (by omega)
    have q1 : (v - u) / b ≤ v - u := Int.ediv_le_self _ (by omega)
    have q2 : b * ((v - u) / b) ≤ 10000 := by omega
    have q3 : 0 ≤ b * ((v - u) / b) := Int.mul_nonneg (by omega) q0
    have q4 : (v - u) / b * v ≤ 10000 * 10000 := Int.mul_le_mul (by omega) (by omega) (by omega) (by omega)
    have q5 : 0 ≤ (v - u) / b * v := Int.mul_nonneg q0 (by omega)
    have q6 : b * ((v - u) / b) * ((v - u) / b + 1) ≤ 10000 * 10001 := Int.mul_le_mul q2 (by omega) (by omega) (by omega)
    have q7 : 0 ≤ b * ((v - u) / b) * ((v - u) / b + 1) := Int.mul_nonneg q3 (by omega)
    rw [w64 (a := v - u) (by omega) (by omega), Int.tmod_eq_emod_of_nonneg (by omega), Int.tdiv_eq_ediv_of_nonneg (by omega), w64 (a := (v - u) / b) (by omega) (by omega)]
    rw [w64 (a := b * ((v - u) / b)) (by omega) (by omega), w64 (a := (v - u) / b + 1) (by omega) (by omega), w64 (a := b * ((v - u) / b) * ((v - u) / b + 1)) (by omega) (by omega), w64 (a := (v - u) / b * v) (by omega) (by omega)]
    rw [Int.tdiv_eq_ediv_of_nonneg q7, w64 (a := b * ((v - u) / b) * ((v - u) / b + 1) / 2) (by omega) (by omega), w64 (a := (v - u) / b * v - b * ((v - u) / b) * ((v - u) / b + 1) / 2) (by omega) (by omega)]
    unfold slen
    rw [if_neg c]
    by_cases c2 : 0 < (v - u) % b
    · rw [if_pos c2, if_pos c2, w64 (by omega) (by omega)]
    · rw [if_neg c2, if_neg c2]; simp
theorem ev_SlowLen_f {v u b : Int} (h : ¬ ((0 ≤ v ∧ v ≤ 10000) ∧ (0 ≤ u ∧ u ≤ 10000) ∧ (10 ≤ b ∧ b ≤ 1000))) : Ev (fun k => impl_SlowLen.f k v u b) (-1) := by
  have j : Ev (fun k => impl_SlowLen.j0 k v u b true) (-1) := Ev.step (f := fun _ => some (-1)) (fun k => by rw [impl_SlowLen.j0, if_pos rfl]) (Ev.now _)
  by_cases hv : 0 ≤ v ∧ v ≤ 10000
  · by_cases hu : 0 ≤ u ∧ u ≤ 10000
    · have hb : ¬ (10 ≤ b ∧ b ≤ 1000) := fun hb => h ⟨hv, hu, hb⟩
      simp only [impl_SlowLen.f, speed_t hv, speed_t hu, brake_f hb, Option.bind_some, ↓reduceIte]
      exact j
    · simp only [impl_SlowLen.f, speed_t hv, speed_f hu, Option.bind_some, ↓reduceIte]
      exact j
  · simp only [impl_SlowLen.f, speed_f hv, Option.bind_some]
    exact j
theorem l1in_t {x a b : Int} (h : a ≤ x ∧ x ≤ b) : spec_l1in.f x a b = some true := by
  unfold spec_l1in.f; rw [if_pos (by omega)]; simp; omega
theorem l1in_f {x a b : Int} (h : ¬ (a ≤ x ∧ x ≤ b)) : spec_l1in.f x a b = some false := by
  unfold spec_l1in.f; split
  · simp; omega
  · rfl
theorem speeds_t {v u : Int} (hv : 0 ≤ v ∧ v ≤ 10000) (hu : 0 ≤ u ∧ u ≤ 10000) : spec_l1speeds.f v u = some true := by
  simp only [spec_l1speeds.f, l1in_t hv, l1in_t hu, Option.bind_some, ↓reduceIte]
theorem speeds_f {v u : Int} (h : ¬ ((0 ≤ v ∧ v ≤ 10000) ∧ (0 ≤ u ∧ u ≤ 10000))) : spec_l1speeds.f v u = some false := by
  by_cases hv : 0 ≤ v ∧ v ≤ 10000
  · have hu : ¬ (0 ≤ u ∧ u ≤ 10000) := fun hu => h ⟨hv, hu⟩
    simp only [spec_l1speeds.f, l1in_t hv, l1in_f hu, Option.bind_some, ↓reduceIte]
  · simp [spec_l1speeds.f, l1in_f hv]
theorem brakes_t {v : Int} (hv : 10 ≤ v ∧ v ≤ 1000) : spec_l1brakes.f v = some true := by
  simp only [spec_l1brakes.f, l1in_t hv, Option.bind_some]
theorem brakes_f {v : Int} (hv : ¬ (10 ≤ v ∧ v ≤ 1000)) : spec_l1brakes.f v = some false := by
  simp only [spec_l1brakes.f, l1in_f hv, Option.bind_some]
theorem ev_slow_l0 (u b : Int) (hu : 0 ≤ u ∧ u ≤ 10000) (hb : 10 ≤ b ∧ b ≤ 1000) (d : Nat) : ∀ v f n : Int, 0 ≤ v → v ≤ 10000 → v ≤ d → 0 ≤ f → f + (d : Int) * 10000 ≤ 1000000000000 → 0 ≤ n → n + (d : Int) ≤ 1000000 →
    Ev (fun k => spec_l1slow.l0 k v u b f n) (f + slen v u b, n + stk v u b) := by
  induction d with
  | zero =>
    intro v f n h0 h1 h2 h3 h4 h5 h6
    refine Ev.step (fun k => by rw [spec_l1slow.l0]) ?_
    refine neg_ (by omega) (now_ ?_)
    rw [slen_le (by omega), stk_le (by omega)]; simp
  | succ d ih =>
    intro v f n h0 h1 h2 h3 h4 h5 h6
    refine Ev.step (fun k => by rw [spec_l1slow.l0]) ?_
    by_cases c : v > u
    · refine pos_ c ?_
      rw [w64 (a := v - b) (by omega) (by omega)]
      by_cases c2 : v - b < u
      · refine pos_ c2 ?_
        rw [w64 (a := f + u) (by omega) (by omega), w64 (a := n + 1) (by omega) (by omega)]
        refine cast_ ?_ (ih u (f + u) (n + 1) (by omega) (by omega) (by omega) (by omega) (by omega) (by omega) (by omega))
        rw [slen_le (v := u) (by omega), stk_le (v := u) (by omega), slen_last (by omega) c c2, stk_last (by omega) c c2]; simp
      · refine neg_ c2 ?_
        rw [w64 (a := f + (v - b)) (by omega) (by omega), w64 (a := n + 1) (by omega) (by omega)]
        refine cast_ ?_ (ih (v - b) (f + (v - b)) (n + 1) (by omega) (by omega) (by omega) (by omega) (by omega) (by omega) (by omega))
        rw [slen_more (v := v) (by omega) c (by omega), stk_more (v := v) (by omega) c (by omega)]
        ext <;> simp <;> omega
    · refine neg_ c (now_ ?_)
      rw [slen_le (by omega), stk_le (by omega)]; simp
theorem ev_slow {v u b : Int} (hv : 0 ≤ v ∧ v ≤ 10000) (hu : 0 ≤ u ∧ u ≤ 10000) (hb : 10 ≤ b ∧ b ≤ 1000) : Ev (fun k => spec_l1slow.f k v u b) (slen v u b, stk v u b) := by
  simp only [spec_l1slow.f]
  refine cast_ ?_ (ev_slow_l0 u b hu hb v.toNat v 0 0 (by omega) (by omega) (by omega) (by omega) (by omega) (by omega) (by omega))
  simp
theorem ev_sSlowLen {v u b : Int} (hv : 0 ≤ v ∧ v ≤ 10000) (hu : 0 ≤ u ∧ u ≤ 10000) (hb : 10 ≤ b ∧ b ≤ 1000) : Ev (fun k => spec_SlowLen.f k v u b) (slen v u b) := by
  simp only [spec_SlowLen.f, speeds_t hv hu, brakes_t hb, Option.bind_some, ↓reduceIte]
  exact Ev.bind (f := fun _ (x : Int × Int) => some x.1) (ev_slow hv hu hb) (Ev.now _)
theorem ev_sSlowLen_f {v u b : Int} (h : ¬ ((0 ≤ v ∧ v ≤ 10000) ∧ (0 ≤ u ∧ u ≤ 10000) ∧ (10 ≤ b ∧ b ≤ 1000))) : Ev (fun k => spec_SlowLen.f k v u b) (-1) := by
  by_cases hvu : (0 ≤ v ∧ v ≤ 10000) ∧ (0 ≤ u ∧ u ≤ 10000)
  · have hb : ¬ (10 ≤ b ∧ b ≤ 1000) := fun hb => h ⟨hvu.1, hvu.2, hb⟩
    simp only [spec_SlowLen.f, speeds_t hvu.1 hvu.2, brakes_f hb, Option.bind_some, ↓reduceIte]
    exact now_ rfl
  · simp only [spec_SlowLen.f, speeds_f hvu, Option.bind_some]
    exact now_ rfl

theorem FnExactSlowLen : laws_FnExactSlowLen.Pure := by
  intro v u b _ _ _
  refine Ev.rounds ?_
  simp only [laws_FnExactSlowLen.f]
  by_cases h : (0 ≤ v ∧ v ≤ 10000) ∧ (0 ≤ u ∧ u ≤ 10000) ∧ (10 ≤ b ∧ b ≤ 1000)
  · exact Ev.bind (ev_sSlowLen h.1 h.2.1 h.2.2) (Ev.bind (ev_SlowLen h.1 h.2.1 h.2.2) (pos_ rfl (now_ rfl)))
  · exact Ev.bind (ev_sSlowLen_f h) (Ev.bind (ev_SlowLen_f h) (pos_ rfl (now_ rfl)))

end Go.Proofs.Ytlpcaimkkoahiaa.Pure
