/- The program's MostSpeed gives the reference's answer at all four arguments. No condition but that they are 64-bit numbers. -/
import Derived.Test.YtlpcaimkkoahiaaPFnExactMostSpeedx0
import Derived.Test.YtlpcaimkkoahiaaPFnExactMostSpeedx1
import Derived.Test.YtlpcaimkkoahiaaPFnExactMostSpeedx2
import Derived.Test.YtlpcaimkkoahiaaMath
set_option linter.unusedVariables false
set_option linter.unusedSimpArgs false
namespace Go.Proofs.Ytlpcaimkkoahiaa.Pure
open Go.RowKit Go.Proofs.Ytlpcaimkkoahiaa.PFnExactMostSpeed Go.Proofs.YtlpcaimkkoahiaaW.PrintWords Go.Proofs.YtlpcaimkkoahiaaW.PrintLast Go.Proofs.Ytlpcaimkkoahiaa.M

theorem l1in_t {x a b : Int} (h : a ≤ x ∧ x ≤ b) : spec_l1in.f x a b = some true := by
  unfold spec_l1in.f; rw [if_pos (by omega)]; simp; omega
theorem l1in_f {x a b : Int} (h : ¬ (a ≤ x ∧ x ≤ b)) : spec_l1in.f x a b = some false := by
  unfold spec_l1in.f; split
  · simp; omega
  · rfl
theorem speeds_t {v u : Int} (hv : 0 ≤ v ∧ v ≤ 10000) (hu : 0 ≤ u ∧ u ≤ 10000) : spec_l1speeds.f v u = some true := by
  simp only [spec_l1speeds.f, l1in_t hv, l1in_t hu, Option.bind_some, ↓reduceIte]
theorem speeds_f {v u : Int} (h : ¬ ((0 ≤ v ∧ v ≤ 10000) ∧ (0 ≤ u ∧ u ≤ 10000))) : spec_l1speeds.f v u = some false := by
  by_cases hv : 0 ≤ v ∧ v ≤ 10000
  · have hu : ¬ (0 ≤ u ∧ u ≤ 10000) := fun hu => h ⟨hv, hu⟩
    simp only [spec_l1speeds.f, l1in_t hv, l1in_f hu, Option.bind_some, ↓reduceIte]
  · simp [spec_l1speeds.f, l1in_f hv]
theorem brakes_t {v : Int} (hv : 10 ≤ v ∧ v ≤ 1000) : spec_l1brakes.f v = some true := by
  simp only [spec_l1brakes.f, l1in_t hv, Option.bind_some]
theorem brakes_f {v : Int} (hv : ¬ (10 ≤ v ∧ v ≤ 1000)) : spec_l1brakes.f v = some false := by
  simp only [spec_l1brakes.f, l1in_f hv, Option.bind_some]
theorem ev_slow_l0 (u b : Int) (hu : 0 ≤ u ∧ u ≤ 10000) (hb : 10 ≤ b ∧ b ≤ 1000) (d : Nat) : ∀ v f n : Int, 0 ≤ v → v ≤ 10000 → v ≤ d → 0 ≤ f → f + (d : Int) * 10000 ≤ 1000000000000 → 0 ≤ n → n + (d : Int) ≤ 1000000 →
    Ev (fun k => spec_l1slow.l0 k v u b f n) (f + slen v u b, n + stk v u b) := by
  induction d with
  | zero =>
    intro v f n h0 h1 h2 h3 h4 h5 h6
    refine Ev.step (fun k => by rw [spec_l1slow.l0]) ?_
    refine neg_ (by omega) (now_ ?_)
    rw [slen_le (by omega), stk_le (by omega)]; simp
  | succ d ih =>
    intro v f n h0 h1 h2 h3 h4 h5 h6
    refine Ev.step (fun k => by rw [spec_l1slow.l0]) ?_
    by_cases c : v > u
    · refine pos_ c ?_
      rw [w64 (a := v - b) (by omega) (by omega)]
      by_cases c2 : v - b < u
      · refine pos_ c2 ?_
        rw [w64 (a := f + u) (by omega) (by omega), w64 (a := n + 1) (by omega) (by omega)]
        refine cast_ ?_ (ih u (f + u) (n + 1) (by omega) (by omega) (by omega) (by omega) (by omega) (by omega) (by omega))
        rw [slen_le (v := u) (by omega), stk_le (v := u) (by omega), slen_last (by omega) c c2, stk_last (by omega) c c2]; simp
      · refine neg_ c2 ?_
        rw [w64 (a := f + (v - b)) (by omega) (by omega), w64 (a := n + 1) (by omega) (by omega)]
        refine cast_ ?_ (ih (v - b) (f + (v - b)) (n + 1) (by omega) (by omega) (by omega) (by omega) (by omega) (by omega) (by omega))
        rw [slen_more (v := v) (by omega) c (by omega), stk_more (v := v) (by omega) c (by omega)]
        ext <;> simp <;> omega
    · refine neg_ c (now_ ?_)
      rw [slen_le (by omega), stk_le (by omega)]; simp
theorem ev_slow {v u b : Int} (hv : 0 ≤ v ∧ v ≤ 10000) (hu : 0 ≤ u ∧ u ≤ 10000) (hb : 10 ≤ b ∧ b ≤ 1000) : Ev (fun k => spec_l1slow.f k v u b) (slen v u b, stk v u b) := by
  simp only [spec_l1slow.f]
  refine cast_ ?_ (ev_slow_l0 u b hu hb v.toNat v 0 0 (by omega) (by omega) (by omega) (by omega) (by omega) (by omega) (by omega))
  simp
theorem ev_sMS_l0 (room u b delay : Int) (hr : 0 ≤ room ∧ room ≤ 100000000) (hu : 0 ≤ u ∧ u ≤ 10000) (hb : 10 ≤ b ∧ b ≤ 1000) (hd : 0 ≤ delay ∧ delay ≤ 20) (d : Nat) : ∀ v : Int, 0 ≤ v → v + d = 10000 → Ev (fun k => spec_MostSpeed.l0 k room u b delay v (v + 1)) (mostV room u b delay v d) := by
  induction d with
  | zero =>
    intro v h0 h1
    refine Ev.step (fun k => by rw [spec_MostSpeed.l0]) ?_
    exact neg_ (by omega) (now_ rfl)
  | succ d ih =>
    intro v h0 h1
    have g := slen_bound (v := v + 1) (u := u) (b := b) ⟨by omega, by omega⟩ hu hb
    have m0 : 0 ≤ delay * (v + 1) := Int.mul_nonneg (by omega) (by omega)
    have m1 : delay * (v + 1) ≤ 20 * 10000 := Int.mul_le_mul (by omega) (by omega) (by omega) (by omega)
    refine Ev.step (fun k => by rw [spec_MostSpeed.l0]) ?_
    refine pos_ (by omega) (Ev.bind (ev_slow ⟨by omega, by omega⟩ hu hb) ?_)
    simp only
    rw [w64 (a := delay * (v + 1)) (by omega) (by omega), w64 (a := delay * (v + 1) + slen (v + 1) u b) (by omega) (by omega), w64 (a := v + 1 + 1) (by omega) (by omega), mostV]
    by_cases c : delay * (v + 1) + slen (v + 1) u b ≤ room
    · rw [if_pos c]; exact neg_ (by omega) (ih (v + 1) (by omega) (by omega))
    · rw [if_neg c]; exact pos_ (by omega) (now_ rfl)
theorem ev_sMS {room u b delay : Int} (hr : 0 ≤ room ∧ room ≤ 100000000) (hu : 0 ≤ u ∧ u ≤ 10000) (hb : 10 ≤ b ∧ b ≤ 1000) (hd : 0 ≤ delay ∧ delay ≤ 20) : Ev (fun k => spec_MostSpeed.f k room u b delay) (mostV room u b delay 0 10000) := by
  simp only [spec_MostSpeed.f, l1in_t hr, speeds_t (show (0 : Int) ≤ 0 ∧ (0 : Int) ≤ 10000 by omega) hu, brakes_t hb, l1in_t hd, Option.bind_some, ↓reduceIte]
  refine Ev.step (fun k => by rw [spec_MostSpeed.j0]) ?_
  refine neg_ (by decide) (Ev.step (fun k => by rw [spec_MostSpeed.l0]) ?_)
  refine pos_ (by omega) (Ev.bind (ev_slow ⟨by omega, by omega⟩ hu hb) ?_)
  simp only
  rw [slen_le hu.1, Int.mul_zero, w64 (a := 0) (by omega) (by omega), w64 (a := 0 + 0) (by omega) (by omega), w64 (a := 0 + 1) (by omega) (by omega)]
  exact neg_ (by omega) (ev_sMS_l0 room u b delay hr hu hb hd 10000 0 (by omega) (by omega))
theorem ev_sMS_f {room u b delay : Int} (h : ¬ ((0 ≤ room ∧ room ≤ 100000000) ∧ (0 ≤ u ∧ u ≤ 10000) ∧ (10 ≤ b ∧ b ≤ 1000) ∧ (0 ≤ delay ∧ delay ≤ 20))) : Ev (fun k => spec_MostSpeed.f k room u b delay) (-1) := by
  have j : Ev (fun k => spec_MostSpeed.j0 k room u b delay true) (-1) := Ev.step (f := fun _ => some (-1)) (fun k => by rw [spec_MostSpeed.j0, if_pos rfl]) (Ev.now _)
  have z : (0 : Int) ≤ 0 ∧ (0 : Int) ≤ 10000 := by omega
  by_cases hr : 0 ≤ room ∧ room ≤ 100000000
  · by_cases hu : 0 ≤ u ∧ u ≤ 10000
    · by_cases hb : 10 ≤ b ∧ b ≤ 1000
      · have hd : ¬ (0 ≤ delay ∧ delay ≤ 20) := fun x => h ⟨hr, hu, hb, x⟩
        simp only [spec_MostSpeed.f, l1in_t hr, speeds_t z hu, brakes_t hb, l1in_f hd, Option.bind_some, ↓reduceIte]
        exact j
      · simp only [spec_MostSpeed.f, l1in_t hr, speeds_t z hu, brakes_f hb, Option.bind_some, ↓reduceIte]
        exact j
    · simp only [spec_MostSpeed.f, l1in_t hr, speeds_f (v := 0) (fun x => hu x.2), Option.bind_some, ↓reduceIte]
      exact j
  · simp only [spec_MostSpeed.f, l1in_f hr, Option.bind_some]
    exact j
theorem speed_t {v : Int} (h : 0 ≤ v ∧ v ≤ 10000) : impl_speed.f v = some true := by
  unfold impl_speed.f; rw [if_pos (by omega)]; simp; omega
theorem speed_f {v : Int} (h : ¬ (0 ≤ v ∧ v ≤ 10000)) : impl_speed.f v = some false := by
  unfold impl_speed.f; split
  · simp; omega
  · rfl
theorem brake_t {v : Int} (h : 10 ≤ v ∧ v ≤ 1000) : impl_brake.f v = some true := by
  unfold impl_brake.f; rw [if_pos (by omega)]; simp; omega
theorem brake_f {v : Int} (h : ¬ (10 ≤ v ∧ v ≤ 1000)) : impl_brake.f v = some false := by
  unfold impl_brake.f; split
  · simp; omega
  · rfl
theorem ev_SlowLen {v u b : Int} (hv : 0 ≤ v ∧ v ≤ 10000) (hu : 0 ≤ u ∧ u ≤ 10000) (hb : 10 ≤ b ∧ b ≤ 1000) : Ev (fun k => impl_SlowLen.f k v u b) (slen v u b) := by
  simp only [impl_SlowLen.f, speed_t hv, speed_t hu, brake_t hb, Option.bind_some, ↓reduceIte]
  refine Ev.step (f := fun _ => some (slen v u b)) (fun k => ?_) (Ev.now _)
  rw [impl_SlowLen.j0, if_neg (by decide)]
  by_cases c : v ≤ u
  · rw [if_pos c, slen_le c]
  · rw [if_neg c, if_neg (by omega)]
    have d := Int.mul_ediv_add_emod (v - u) b
    have m0 := Int.emod_nonneg (v - u) (show b ≠ 0 by omega)
    have m1 := Int.emod_lt_of_pos (v - u) (show 0 < b by omega)
    have q0 : 0 ≤ (v - u) / b := Int.ediv_nonneg (by omega) (by omega)
    have q1 : (v - u) / b ≤ v - u := Int.ediv_le_self _ (by omega)
    have q2 : b * ((v - u) / b) ≤ 10000 := by omega
    have q3 : 0 ≤ b * ((v - u) / b) := Int.mul_nonneg (by omega) q0
    have q4 : (v - u) / b * v ≤ 10000 * 10000 := Int.mul_le_mul (by omega) (by omega) (by omega) (by omega)
    have q5 : 0 ≤ (v - u) / b * v := Int.mul_nonneg q0 (by omega)
    have q6 : b * ((v - u) / b) * ((v - u) / b + 1) ≤ 10000 * 10001 := Int.mul_le_mul q2 (by omega) (by omega) (by omega)
    have q7 : 0 ≤ b * ((v - u) / b) * ((v - u) / b + 1) := Int.mul_nonneg q3 (by omega)
    rw [w64 (a := v - u) (by omega) (by omega), Int.tmod_eq_emod_of_nonneg (by omega), Int.tdiv_eq_ediv_of_nonneg (by omega), w64 (a := (v - u) / b) (by omega) (by omega)]
    rw [w64 (a := b * ((v - u) / b)) (by omega) (by omega), w64 (a := (v - u) / b + 1) (by omega) (by omega), w64 (a := b * ((v - u) / b) * ((v - u) / b + 1)) (by omega) (by omega), w64 (a := (v - u) / b * v) (by omega) (by omega)]
    rw [Int.tdiv_eq_ediv_of_nonneg q7, w64 (a := b * ((v - u) / b) * ((v - u) / b + 1) / 2) (by omega) (by omega), w64 (a := (v - u) / b * v - b * ((v - u) / b) * ((v - u) / b + 1) / 2) (by omega) (by omega)]
    unfold slen
    rw [if_neg c]
    by_cases c2 : 0 < (v - u) % b
    · rw [if_pos c2, if_pos c2, w64 (by omega) (by omega)]
    · rw [if_neg c2, if_neg c2]; simp
theorem ev_SlowLen_f {v u b : Int} (h : ¬ ((0 ≤ v ∧ v ≤ 10000) ∧ (0 ≤ u ∧ u ≤ 10000) ∧ (10 ≤ b ∧ b ≤ 1000))) : Ev (fun k => impl_SlowLen.f k v u b) (-1) := by
  have j : Ev (fun k => impl_SlowLen.j0 k v u b true) (-1) := Ev.step (f := fun _ => some (-1)) (fun k => by rw [impl_SlowLen.j0, if_pos rfl]) (Ev.now _)
  by_cases hv : 0 ≤ v ∧ v ≤ 10000
  · by_cases hu : 0 ≤ u ∧ u ≤ 10000
    · have hb : ¬ (10 ≤ b ∧ b ≤ 1000) := fun hb => h ⟨hv, hu, hb⟩
      simp only [impl_SlowLen.f, speed_t hv, speed_t hu, brake_f hb, Option.bind_some, ↓reduceIte]
      exact j
    · simp only [impl_SlowLen.f, speed_t hv, speed_f hu, Option.bind_some, ↓reduceIte]
      exact j
  · simp only [impl_SlowLen.f, speed_f hv, Option.bind_some]
    exact j
theorem length_t {v : Int} (h : 0 ≤ v ∧ v ≤ 100000000) : impl_length.f v = some true := by
  unfold impl_length.f; rw [if_pos (by omega)]; simp; omega
theorem length_f {v : Int} (h : ¬ (0 ≤ v ∧ v ≤ 100000000)) : impl_length.f v = some false := by
  unfold impl_length.f; split
  · simp; omega
  · rfl
theorem ev_MS_l0 (room u b delay : Int) (hr : 0 ≤ room ∧ room ≤ 100000000) (hu : 0 ≤ u ∧ u ≤ 10000) (hb : 10 ≤ b ∧ b ≤ 1000) (hd : 0 ≤ delay ∧ delay ≤ 20) (d : Nat) : ∀ v : Int, 0 ≤ v → v + d = 10000 → Ev (fun k => impl_MostSpeed.l0 k room u b delay v) (mostV room u b delay v d) := by
  induction d with
  | zero =>
    intro v h0 h1
    refine Ev.step (fun k => by rw [impl_MostSpeed.l0]) ?_
    exact neg_ (by omega) (now_ rfl)
  | succ d ih =>
    intro v h0 h1
    have g := slen_bound (v := v + 1) (u := u) (b := b) ⟨by omega, by omega⟩ hu hb
    have m0 : 0 ≤ delay * (v + 1) := Int.mul_nonneg (by omega) (by omega)
    have m1 : delay * (v + 1) ≤ 20 * 10000 := Int.mul_le_mul (by omega) (by omega) (by omega) (by omega)
    refine Ev.step (fun k => by rw [impl_MostSpeed.l0]) ?_
    rw [w64 (a := v + 1) (by omega) (by omega)]
    refine pos_ (by omega) (Ev.bind (ev_SlowLen ⟨by omega, by omega⟩ hu hb) ?_)
    rw [w64 (a := delay * (v + 1)) (by omega) (by omega), w64 (a := delay * (v + 1) + slen (v + 1) u b) (by omega) (by omega), mostV]
    by_cases c : delay * (v + 1) + slen (v + 1) u b ≤ room
    · rw [if_pos c]; exact pos_ c (ih (v + 1) (by omega) (by omega))
    · rw [if_neg c]; exact neg_ c (now_ rfl)
theorem ev_MS {room u b delay : Int} (hr : 0 ≤ room ∧ room ≤ 100000000) (hu : 0 ≤ u ∧ u ≤ 10000) (hb : 10 ≤ b ∧ b ≤ 1000) (hd : 0 ≤ delay ∧ delay ≤ 20) : Ev (fun k => impl_MostSpeed.f k room u b delay) (mostV room u b delay 0 10000) := by
  simp only [impl_MostSpeed.f, length_t hr, speed_t hu, brake_t hb, Option.bind_some, ↓reduceIte]
  refine neg_ (by omega) ?_
  refine Ev.step (fun k => by rw [impl_MostSpeed.j0]) ?_
  exact neg_ (by simp; omega) (ev_MS_l0 room u b delay hr hu hb hd 10000 0 (by omega) (by omega))
theorem ev_MS_f {room u b delay : Int} (h : ¬ ((0 ≤ room ∧ room ≤ 100000000) ∧ (0 ≤ u ∧ u ≤ 10000) ∧ (10 ≤ b ∧ b ≤ 1000) ∧ (0 ≤ delay ∧ delay ≤ 20))) : Ev (fun k => impl_MostSpeed.f k room u b delay) (-1) := by
  have j : Ev (fun k => impl_MostSpeed.j0 k room u b delay true) (-1) := Ev.step (f := fun _ => some (-1)) (fun k => by rw [impl_MostSpeed.j0, if_pos rfl]) (Ev.now _)
  by_cases hr : 0 ≤ room ∧ room ≤ 100000000
  · by_cases hu : 0 ≤ u ∧ u ≤ 10000
    · by_cases hb : 10 ≤ b ∧ b ≤ 1000
      · have hd : ¬ (0 ≤ delay ∧ delay ≤ 20) := fun x => h ⟨hr, hu, hb, x⟩
        simp only [impl_MostSpeed.f, length_t hr, speed_t hu, brake_t hb, Option.bind_some, ↓reduceIte]
        by_cases c : delay < 0
        · exact pos_ c j
        · refine neg_ c ?_
          rw [decide_eq_true (show delay > 20 by omega)]
          exact j
      · simp only [impl_MostSpeed.f, length_t hr, speed_t hu, brake_f hb, Option.bind_some, ↓reduceIte]
        exact j
    · simp only [impl_MostSpeed.f, length_t hr, speed_f hu, Option.bind_some, ↓reduceIte]
      exact j
  · simp only [impl_MostSpeed.f, length_f hr, Option.bind_some]
    exact j

theorem FnExactMostSpeed : laws_FnExactMostSpeed.Pure := by
  intro room u b delay _ _ _ _
  refine Ev.rounds ?_
  simp only [laws_FnExactMostSpeed.f]
  by_cases h : (0 ≤ room ∧ room ≤ 100000000) ∧ (0 ≤ u ∧ u ≤ 10000) ∧ (10 ≤ b ∧ b ≤ 1000) ∧ (0 ≤ delay ∧ delay ≤ 20)
  · exact Ev.bind (ev_sMS h.1 h.2.1 h.2.2.1 h.2.2.2) (Ev.bind (ev_MS h.1 h.2.1 h.2.2.1 h.2.2.2) (pos_ rfl (now_ rfl)))
  · exact Ev.bind (ev_sMS_f h) (Ev.bind (ev_MS_f h) (pos_ rfl (now_ rfl)))

end Go.Proofs.Ytlpcaimkkoahiaa.Pure
