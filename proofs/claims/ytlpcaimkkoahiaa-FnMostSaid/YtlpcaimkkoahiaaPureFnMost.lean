/- At every list of bytes the law FnMost answers true: the greatest speed and the least brake are greatest and least by one. Conditions: the list holds bytes and fits into memory. -/
import Derived.Test.YtlpcaimkkoahiaaPFnMostx0
import Derived.Test.YtlpcaimkkoahiaaPFnMostx1
import Derived.Test.YtlpcaimkkoahiaaPFnMostx2
import Derived.Test.YtlpcaimkkoahiaaPFnMostx3
import Derived.Test.YtlpcaimkkoahiaaMath
import Derived.Test.YtlpcaimkkoahiaaSized
set_option linter.unusedVariables false
set_option linter.unusedSimpArgs false
namespace Go.Proofs.Ytlpcaimkkoahiaa.Pure
open Go.RowKit Go.Proofs.Ytlpcaimkkoahiaa.PFnMost Go.Proofs.YtlpcaimkkoahiaaW.PrintWords Go.Proofs.YtlpcaimkkoahiaaW.PrintLast Go.Proofs.Ytlpcaimkkoahiaa.M

theorem wByte_some (l : List Int) (hw : ∀ x ∈ l, (Lit.int .u8 x).wf = true) (i : Int) (hi : 0 ≤ i) : ∃ r, laws_wByte.f l i = some r ∧ 0 ≤ r ∧ r ≤ 255 := by
  unfold laws_wByte.f
  by_cases c : (l.length : Int) = 0
  · rw [if_pos c]; exact ⟨0, rfl, by omega, by omega⟩
  · rw [if_neg c, Int.tmod_eq_emod_of_nonneg hi]
    have m0 := Int.emod_nonneg i c
    have m1 := Int.emod_lt_of_pos i (show 0 < (l.length : Int) by omega)
    rw [if_pos m0, if_pos m1]
    have hm : rd l (i % l.length) ∈ l := by
      unfold rd
      rw [List.getD_eq_getElem?_getD, List.getElem?_eq_getElem (by omega)]
      exact List.getElem_mem _
    have hq := hw _ hm
    have hb : 0 ≤ rd l (i % l.length) ∧ rd l (i % l.length) ≤ 255 := by
      have hq2 : (decide ((0 : Int) ≤ rd l (i % l.length)) && decide (rd l (i % l.length) ≤ (255 : Int))) = true := hq
      rw [Bool.and_eq_true, decide_eq_true_eq, decide_eq_true_eq] at hq2
      exact hq2
    exact ⟨_, rfl, by rw [w64 (by omega) (by omega)]; exact hb.1, by rw [w64 (by omega) (by omega)]; exact hb.2⟩
theorem l1in_t {x a b : Int} (h : a ≤ x ∧ x ≤ b) : spec_l1in.f x a b = some true := by
  unfold spec_l1in.f; rw [if_pos (by omega)]; simp; omega
theorem l1in_f {x a b : Int} (h : ¬ (a ≤ x ∧ x ≤ b)) : spec_l1in.f x a b = some false := by
  unfold spec_l1in.f; split
  · simp; omega
  · rfl
theorem speeds_t {v u : Int} (hv : 0 ≤ v ∧ v ≤ 10000) (hu : 0 ≤ u ∧ u ≤ 10000) : spec_l1speeds.f v u = some true := by
  simp only [spec_l1speeds.f, l1in_t hv, l1in_t hu, Option.bind_some, ↓reduceIte]
theorem speeds_f {v u : Int} (h : ¬ ((0 ≤ v ∧ v ≤ 10000) ∧ (0 ≤ u ∧ u ≤ 10000))) : spec_l1speeds.f v u = some false := by
  by_cases hv : 0 ≤ v ∧ v ≤ 10000
  · have hu : ¬ (0 ≤ u ∧ u ≤ 10000) := fun hu => h ⟨hv, hu⟩
    simp only [spec_l1speeds.f, l1in_t hv, l1in_f hu, Option.bind_some, ↓reduceIte]
  · simp [spec_l1speeds.f, l1in_f hv]
theorem brakes_t {v : Int} (hv : 10 ≤ v ∧ v ≤ 1000) : spec_l1brakes.f v = some true := by
  simp only [spec_l1brakes.f, l1in_t hv, Option.bind_some]
theorem brakes_f {v : Int} (hv : ¬ (10 ≤ v ∧ v ≤ 1000)) : spec_l1brakes.f v = some false := by
  simp only [spec_l1brakes.f, l1in_f hv, Option.bind_some]
theorem ev_slow_l0 (u b : Int) (hu : 0 ≤ u ∧ u ≤ 10000) (hb : 10 ≤ b ∧ b ≤ 1000) (d : Nat) : ∀ v f n : Int, 0 ≤ v → v ≤ 10000 → v ≤ d → 0 ≤ f → f + (d : Int) * 10000 ≤ 1000000000000 → 0 ≤ n → n + (d : Int) ≤ 1000000 →
    Ev (fun k => spec_l1slow.l0 k v u b f n) (f + slen v u b, n + stk v u b) := by
  induction d with
  | zero =>
    intro v f n h0 h1 h2 h3 h4 h5 h6
    refine Ev.step (fun k => by rw [spec_l1slow.l0]) ?_
    refine neg_ (by omega) (now_ ?_)
    rw [slen_le (by omega), stk_le (by omega)]; simp
  | succ d ih =>
    intro v f n h0 h1 h2 h3 h4 h5 h6
    refine Ev.step (fun k => by rw [spec_l1slow.l0]) ?_
    by_cases c : v > u
    · refine pos_ c ?_
      rw [w64 (a := v - b) (by omega) (by omega)]
      by_cases c2 : v - b < u
      · refine pos_ c2 ?_
        rw [w64 (a := f + u) (by omega) (by omega), w64 (a := n + 1) (by omega) (by omega)]
        refine cast_ ?_ (ih u (f + u) (n + 1) (by omega) (by omega) (by omega) (by omega) (by omega) (by omega) (by omega))
        rw [slen_le (v := u) (by omega), stk_le (v := u) (by omega), slen_last (by omega) c c2, stk_last (by omega) c c2]; simp
      · refine neg_ c2 ?_
        rw [w64 (a := f + (v - b)) (by omega) (by omega), w64 (a := n + 1) (by omega) (by omega)]
        refine cast_ ?_ (ih (v - b) (f + (v - b)) (n + 1) (by omega) (by omega) (by omega) (by omega) (by omega) (by omega) (by omega))
        rw [slen_more (v := v) (by omega) c (by omega), stk_more (v := v) (by omega) c (by omega)]
        ext <;> simp <;> omega
    · refine neg_ c (now_ ?_)
      rw [slen_le (by omega), stk_le (by omega)]; simp
theorem ev_slow {v u b : Int} (hv : 0 ≤ v ∧ v ≤ 10000) (hu : 0 ≤ u ∧ u ≤ 10000) (hb : 10 ≤ b ∧ b ≤ 1000) : Ev (fun k => spec_l1slow.f k v u b) (slen v u b, stk v u b) := by
  simp only [spec_l1slow.f]
  refine cast_ ?_ (ev_slow_l0 u b hu hb v.toNat v 0 0 (by omega) (by omega) (by omega) (by omega) (by omega) (by omega) (by omega))
  simp
theorem ev_sSlowLen {v u b : Int} (hv : 0 ≤ v ∧ v ≤ 10000) (hu : 0 ≤ u ∧ u ≤ 10000) (hb : 10 ≤ b ∧ b ≤ 1000) : Ev (fun k => spec_SlowLen.f k v u b) (slen v u b) := by
  simp only [spec_SlowLen.f, speeds_t hv hu, brakes_t hb, Option.bind_some, ↓reduceIte]
  exact Ev.bind (f := fun _ (x : Int × Int) => some x.1) (ev_slow hv hu hb) (Ev.now _)
theorem ev_sSlowLen_f {v u b : Int} (h : ¬ ((0 ≤ v ∧ v ≤ 10000) ∧ (0 ≤ u ∧ u ≤ 10000) ∧ (10 ≤ b ∧ b ≤ 1000))) : Ev (fun k => spec_SlowLen.f k v u b) (-1) := by
  by_cases hvu : (0 ≤ v ∧ v ≤ 10000) ∧ (0 ≤ u ∧ u ≤ 10000)
  · have hb : ¬ (10 ≤ b ∧ b ≤ 1000) := fun hb => h ⟨hvu.1, hvu.2, hb⟩
    simp only [spec_SlowLen.f, speeds_t hvu.1 hvu.2, brakes_f hb, Option.bind_some, ↓reduceIte]
    exact now_ rfl
  · simp only [spec_SlowLen.f, speeds_f hvu, Option.bind_some]
    exact now_ rfl
theorem speed_t {v : Int} (h : 0 ≤ v ∧ v ≤ 10000) : impl_speed.f v = some true := by
  unfold impl_speed.f; rw [if_pos (by omega)]; simp; omega
theorem speed_f {v : Int} (h : ¬ (0 ≤ v ∧ v ≤ 10000)) : impl_speed.f v = some false := by
  unfold impl_speed.f; split
  · simp; omega
  · rfl
theorem brake_t {v : Int} (h : 10 ≤ v ∧ v ≤ 1000) : impl_brake.f v = some true := by
  unfold impl_brake.f; rw [if_pos (by omega)]; simp; omega
theorem brake_f {v : Int} (h : ¬ (10 ≤ v ∧ v ≤ 1000)) : impl_brake.f v = some false := by
  unfold impl_brake.f; split
  · simp; omega
  · rfl
theorem ev_SlowLen {v u b : Int} (hv : 0 ≤ v ∧ v ≤ 10000) (hu : 0 ≤ u ∧ u ≤ 10000) (hb : 10 ≤ b ∧ b ≤ 1000) : Ev (fun k => impl_SlowLen.f k v u b) (slen v u b) := by
  simp only [impl_SlowLen.f, speed_t hv, speed_t hu, brake_t hb, Option.bind_some, ↓reduceIte]
  refine Ev.step (f := fun _ => some (slen v u b)) (fun k => ?_) (Ev.now _)
  rw [impl_SlowLen.j0, if_neg (by decide)]
  by_cases c : v ≤ u
  · rw [if_pos c, slen_le c]
  · rw [if_neg c, if_neg (by omega)]
    have d := Int.mul_ediv_add_emod (v - u) b
    have m0 := Int.emod_nonneg (v - u) (show b ≠ 0 by omega)
    have m1 := Int.emod_lt_of_pos (v - u) (show 0 < b by omega)
    have q0 : 0 ≤ (v - u) / b := Int.ediv_nonneg (by omega) (by omega)
    have q1 : (v - u) / b ≤ v - u := Int.ediv_le_self _ (by omega)
    have q2 : b * ((v - u) / b) ≤ 10000 := by omega
    have q3 : 0 ≤ b * ((v - u) / b) := Int.mul_nonneg (by omega) q0
    have q4 : (v - u) / b * v ≤ 10000 * 10000 := Int.mul_le_mul (by omega) (by omega) (by omega) (by omega)
    have q5 : 0 ≤ (v - u) / b * v := Int.mul_nonneg q0 (by omega)
    have q6 : b * ((v - u) / b) * ((v - u) / b + 1) ≤ 10000 * 10001 := Int.mul_le_mul q2 (by omega) (by omega) (by omega)
    have q7 : 0 ≤ b * ((v - u) / b) * ((v - u) / b + 1) := Int.mul_nonneg q3 (by omega)
    rw [w64 (a := v - u) (by omega) (by omega), Int.tmod_eq_emod_of_nonneg (by omega), Int.tdiv_eq_ediv_of_nonneg (by omega), w64 (a := (v - u) / b) (by omega) (by omega)]
    rw [w64 (a := b * ((v - u) / b)) (by omega) (by omega), w64 (a := (v - u) / b + 1) (by omega) (by omega), w64 (a := b * ((v - u) / b) * ((v - u) / b + 1)) (by omega) (by omega), w64 (a := (v - u) / b * v) (by omega) (by omega)]
    rw [Int.tdiv_eq_ediv_of_nonneg q7, w64 (a := b * ((v - u) / b) * ((v - u) / b + 1) / 2) (by omega) (by omega), w64 (a := (v - u) / b * v - b * ((v - u) / b) * ((v - u) / b + 1) / 2) (by omega) (by omega)]
    unfold slen
    rw [if_neg c]
    by_cases c2 : 0 < (v - u) % b
    · rw [if_pos c2, if_pos c2, w64 (by omega) (by omega)]
    · rw [if_neg c2, if_neg c2]; simp
theorem ev_SlowLen_f {v u b : Int} (h : ¬ ((0 ≤ v ∧ v ≤ 10000) ∧ (0 ≤ u ∧ u ≤ 10000) ∧ (10 ≤ b ∧ b ≤ 1000))) : Ev (fun k => impl_SlowLen.f k v u b) (-1) := by
  have j : Ev (fun k => impl_SlowLen.j0 k v u b true) (-1) := Ev.step (f := fun _ => some (-1)) (fun k => by rw [impl_SlowLen.j0, if_pos rfl]) (Ev.now _)
  by_cases hv : 0 ≤ v ∧ v ≤ 10000
  · by_cases hu : 0 ≤ u ∧ u ≤ 10000
    · have hb : ¬ (10 ≤ b ∧ b ≤ 1000) := fun hb => h ⟨hv, hu, hb⟩
      simp only [impl_SlowLen.f, speed_t hv, speed_t hu, brake_f hb, Option.bind_some, ↓reduceIte]
      exact j
    · simp only [impl_SlowLen.f, speed_t hv, speed_f hu, Option.bind_some, ↓reduceIte]
      exact j
  · simp only [impl_SlowLen.f, speed_f hv, Option.bind_some]
    exact j
theorem length_t {v : Int} (h : 0 ≤ v ∧ v ≤ 100000000) : impl_length.f v = some true := by
  unfold impl_length.f; rw [if_pos (by omega)]; simp; omega
theorem length_f {v : Int} (h : ¬ (0 ≤ v ∧ v ≤ 100000000)) : impl_length.f v = some false := by
  unfold impl_length.f; split
  · simp; omega
  · rfl
theorem ev_LB_l0 (room v u : Int) (hv : 0 ≤ v ∧ v ≤ 10000) (hu : 0 ≤ u ∧ u ≤ 10000) (d : Nat) : ∀ b : Int, 10 ≤ b → b + d = 1001 → Ev (fun k => impl_LeastBrake.l0 k room v u b) (leastB room v u b d) := by
  induction d with
  | zero =>
    intro b h0 h1
    refine Ev.step (fun k => by rw [impl_LeastBrake.l0]) ?_
    exact neg_ (by omega) (now_ rfl)
  | succ d ih =>
    intro b h0 h1
    refine Ev.step (fun k => by rw [impl_LeastBrake.l0]) ?_
    refine pos_ (by omega) (Ev.bind (ev_SlowLen hv hu ⟨h0, by omega⟩) ?_)
    unfold leastB
    by_cases c : slen v u b ≤ room
    · rw [if_pos c]; exact pos_ c (now_ rfl)
    · rw [if_neg c]; refine neg_ c ?_
      rw [w64 (by omega) (by omega)]
      exact ih (b + 1) (by omega) (by omega)
theorem ev_LB {room v u : Int} (hr : 0 ≤ room ∧ room ≤ 100000000) (hv : 0 ≤ v ∧ v ≤ 10000) (hu : 0 ≤ u ∧ u ≤ 10000) : Ev (fun k => impl_LeastBrake.f k room v u) (leastB room v u 10 991) := by
  simp only [impl_LeastBrake.f, length_t hr, speed_t hv, speed_t hu, Option.bind_some, ↓reduceIte]
  refine Ev.step (fun k => by rw [impl_LeastBrake.j0]) ?_
  exact neg_ (by decide) (ev_LB_l0 room v u hv hu 991 10 (by omega) (by omega))
theorem ev_LB_f {room v u : Int} (h : ¬ ((0 ≤ room ∧ room ≤ 100000000) ∧ (0 ≤ v ∧ v ≤ 10000) ∧ (0 ≤ u ∧ u ≤ 10000))) : Ev (fun k => impl_LeastBrake.f k room v u) (-1) := by
  have j : Ev (fun k => impl_LeastBrake.j0 k room v u true) (-1) := Ev.step (f := fun _ => some (-1)) (fun k => by rw [impl_LeastBrake.j0, if_pos rfl]) (Ev.now _)
  by_cases hr : 0 ≤ room ∧ room ≤ 100000000
  · by_cases hv : 0 ≤ v ∧ v ≤ 10000
    · have hu : ¬ (0 ≤ u ∧ u ≤ 10000) := fun x => h ⟨hr, hv, x⟩
      simp only [impl_LeastBrake.f, length_t hr, speed_t hv, speed_f hu, Option.bind_some, ↓reduceIte]
      exact j
    · simp only [impl_LeastBrake.f, length_t hr, speed_f hv, Option.bind_some, ↓reduceIte]
      exact j
  · simp only [impl_LeastBrake.f, length_f hr, Option.bind_some]
    exact j
theorem ev_sMS_l0 (room u b delay : Int) (hr : 0 ≤ room ∧ room ≤ 100000000) (hu : 0 ≤ u ∧ u ≤ 10000) (hb : 10 ≤ b ∧ b ≤ 1000) (hd : 0 ≤ delay ∧ delay ≤ 20) (d : Nat) : ∀ v : Int, 0 ≤ v → v + d = 10000 → Ev (fun k => spec_MostSpeed.l0 k room u b delay v (v + 1)) (mostV room u b delay v d) := by
  induction d with
  | zero =>
    intro v h0 h1
    refine Ev.step (fun k => by rw [spec_MostSpeed.l0]) ?_
    exact neg_ (by omega) (now_ rfl)
  | succ d ih =>
    intro v h0 h1
    have g := slen_bound (v := v + 1) (u := u) (b := b) ⟨by omega, by omega⟩ hu hb
    have m0 : 0 ≤ delay * (v + 1) := Int.mul_nonneg (by omega) (by omega)
    have m1 : delay * (v + 1) ≤ 20 * 10000 := Int.mul_le_mul (by omega) (by omega) (by omega) (by omega)
    refine Ev.step (fun k => by rw [spec_MostSpeed.l0]) ?_
    refine pos_ (by omega) (Ev.bind (ev_slow ⟨by omega, by omega⟩ hu hb) ?_)
    simp only
    rw [w64 (a := delay * (v + 1)) (by omega) (by omega), w64 (a := delay * (v + 1) + slen (v + 1) u b) (by omega) (by omega), w64 (a := v + 1 + 1) (by omega) (by omega), mostV]
    by_cases c : delay * (v + 1) + slen (v + 1) u b ≤ room
    · rw [if_pos c]; exact neg_ (by omega) (ih (v + 1) (by omega) (by omega))
    · rw [if_neg c]; exact pos_ (by omega) (now_ rfl)
theorem ev_sMS {room u b delay : Int} (hr : 0 ≤ room ∧ room ≤ 100000000) (hu : 0 ≤ u ∧ u ≤ 10000) (hb : 10 ≤ b ∧ b ≤ 1000) (hd : 0 ≤ delay ∧ delay ≤ 20) : Ev (fun k => spec_MostSpeed.f k room u b delay) (mostV room u b delay 0 10000) := by
  simp only [spec_MostSpeed.f, l1in_t hr, speeds_t (show (0 : Int) ≤ 0 ∧ (0 : Int) ≤ 10000 by omega) hu, brakes_t hb, l1in_t hd, Option.bind_some, ↓reduceIte]
  refine Ev.step (fun k => by rw [spec_MostSpeed.j0]) ?_
  refine neg_ (by decide) (Ev.step (fun k => by rw [spec_MostSpeed.l0]) ?_)
  refine pos_ (by omega) (Ev.bind (ev_slow ⟨by omega, by omega⟩ hu hb) ?_)
  simp only
  rw [slen_le hu.1, Int.mul_zero, w64 (a := 0) (by omega) (by omega), w64 (a := 0 + 0) (by omega) (by omega), w64 (a := 0 + 1) (by omega) (by omega)]
  exact neg_ (by omega) (ev_sMS_l0 room u b delay hr hu hb hd 10000 0 (by omega) (by omega))
theorem ev_sMS_f {room u b delay : Int} (h : ¬ ((0 ≤ room ∧ room ≤ 100000000) ∧ (0 ≤ u ∧ u ≤ 10000) ∧ (10 ≤ b ∧ b ≤ 1000) ∧ (0 ≤ delay ∧ delay ≤ 20))) : Ev (fun k => spec_MostSpeed.f k room u b delay) (-1) := by
  have j : Ev (fun k => spec_MostSpeed.j0 k room u b delay true) (-1) := Ev.step (f := fun _ => some (-1)) (fun k => by rw [spec_MostSpeed.j0, if_pos rfl]) (Ev.now _)
  have z : (0 : Int) ≤ 0 ∧ (0 : Int) ≤ 10000 := by omega
  by_cases hr : 0 ≤ room ∧ room ≤ 100000000
  · by_cases hu : 0 ≤ u ∧ u ≤ 10000
    · by_cases hb : 10 ≤ b ∧ b ≤ 1000
      · have hd : ¬ (0 ≤ delay ∧ delay ≤ 20) := fun x => h ⟨hr, hu, hb, x⟩
        simp only [spec_MostSpeed.f, l1in_t hr, speeds_t z hu, brakes_t hb, l1in_f hd, Option.bind_some, ↓reduceIte]
        exact j
      · simp only [spec_MostSpeed.f, l1in_t hr, speeds_t z hu, brakes_f hb, Option.bind_some, ↓reduceIte]
        exact j
    · simp only [spec_MostSpeed.f, l1in_t hr, speeds_f (v := 0) (fun x => hu x.2), Option.bind_some, ↓reduceIte]
      exact j
  · simp only [spec_MostSpeed.f, l1in_f hr, Option.bind_some]
    exact j
theorem ev_MS_l0 (room u b delay : Int) (hr : 0 ≤ room ∧ room ≤ 100000000) (hu : 0 ≤ u ∧ u ≤ 10000) (hb : 10 ≤ b ∧ b ≤ 1000) (hd : 0 ≤ delay ∧ delay ≤ 20) (d : Nat) : ∀ v : Int, 0 ≤ v → v + d = 10000 → Ev (fun k => impl_MostSpeed.l0 k room u b delay v) (mostV room u b delay v d) := by
  induction d with
  | zero =>
    intro v h0 h1
    refine Ev.step (fun k => by rw [impl_MostSpeed.l0]) ?_
    exact neg_ (by omega) (now_ rfl)
  | succ d ih =>
    intro v h0 h1
    have g := slen_bound (v := v + 1) (u := u) (b := b) ⟨by omega, by omega⟩ hu hb
    have m0 : 0 ≤ delay * (v + 1) := Int.mul_nonneg (by omega) (by omega)
    have m1 : delay * (v + 1) ≤ 20 * 10000 := Int.mul_le_mul (by omega) (by omega) (by omega) (by omega)
    refine Ev.step (fun k => by rw [impl_MostSpeed.l0]) ?_
    rw [w64 (a := v + 1) (by omega) (by omega)]
    refine pos_ (by omega) (Ev.bind (ev_SlowLen ⟨by omega, by omega⟩ hu hb) ?_)
    rw [w64 (a := delay * (v + 1)) (by omega) (by omega), w64 (a := delay * (v + 1) + slen (v + 1) u b) (by omega) (by omega), mostV]
    by_cases c : delay * (v + 1) + slen (v + 1) u b ≤ room
    · rw [if_pos c]; exact pos_ c (ih (v + 1) (by omega) (by omega))
    · rw [if_neg c]; exact neg_ c (now_ rfl)
theorem ev_MS {room u b delay : Int} (hr : 0 ≤ room ∧ room ≤ 100000000) (hu : 0 ≤ u ∧ u ≤ 10000) (hb : 10 ≤ b ∧ b ≤ 1000) (hd : 0 ≤ delay ∧ delay ≤ 20) : Ev (fun k => impl_MostSpeed.f k room u b delay) (mostV room u b delay 0 10000) := by
  simp only [impl_MostSpeed.f, length_t hr, speed_t hu, brake_t hb, Option.bind_some, ↓reduceIte]
  refine neg_ (by omega) ?_
  refine Ev.step (fun k => by rw [impl_MostSpeed.j0]) ?_
  exact neg_ (by simp; omega) (ev_MS_l0 room u b delay hr hu hb hd 10000 0 (by omega) (by omega))
theorem ev_MS_f {room u b delay : Int} (h : ¬ ((0 ≤ room ∧ room ≤ 100000000) ∧ (0 ≤ u ∧ u ≤ 10000) ∧ (10 ≤ b ∧ b ≤ 1000) ∧ (0 ≤ delay ∧ delay ≤ 20))) : Ev (fun k => impl_MostSpeed.f k room u b delay) (-1) := by
  have j : Ev (fun k => impl_MostSpeed.j0 k room u b delay true) (-1) := Ev.step (f := fun _ => some (-1)) (fun k => by rw [impl_MostSpeed.j0, if_pos rfl]) (Ev.now _)
  by_cases hr : 0 ≤ room ∧ room ≤ 100000000
  · by_cases hu : 0 ≤ u ∧ u ≤ 10000
    · by_cases hb : 10 ≤ b ∧ b ≤ 1000
      · have hd : ¬ (0 ≤ delay ∧ delay ≤ 20) := fun x => h ⟨hr, hu, hb, x⟩
        simp only [impl_MostSpeed.f, length_t hr, speed_t hu, brake_t hb, Option.bind_some, ↓reduceIte]
        by_cases c : delay < 0
        · exact pos_ c j
        · refine neg_ c ?_
          rw [decide_eq_true (show delay > 20 by omega)]
          exact j
      · simp only [impl_MostSpeed.f, length_t hr, speed_t hu, brake_f hb, Option.bind_some, ↓reduceIte]
        exact j
    · simp only [impl_MostSpeed.f, length_t hr, speed_f hu, Option.bind_some, ↓reduceIte]
      exact j
  · simp only [impl_MostSpeed.f, length_f hr, Option.bind_some]
    exact j

theorem FnMost : laws_FnMost.Pure := by
  intro l _ _ hw
  refine Ev.rounds ?_
  simp only [laws_FnMost.f]
  by_cases hc : (l.length : Int) > 1048576
  · exact pos_ hc (now_ rfl)
  refine neg_ hc ?_
  obtain ⟨a0, e0, p0, q0⟩ := wByte_some l hw 0 (by omega)
  obtain ⟨a1, e1, p1, q1⟩ := wByte_some l hw 1 (by omega)
  obtain ⟨a2, e2, p2, q2⟩ := wByte_some l hw 2 (by omega)
  obtain ⟨a3, e3, p3, q3⟩ := wByte_some l hw 3 (by omega)
  obtain ⟨a4, e4, p4, q4⟩ := wByte_some l hw 4 (by omega)
  obtain ⟨a5, e5, p5, q5⟩ := wByte_some l hw 5 (by omega)
  obtain ⟨a6, e6, p6, q6⟩ := wByte_some l hw 6 (by omega)
  obtain ⟨a7, e7, p7, q7⟩ := wByte_some l hw 7 (by omega)
  simp only [e0, e1, e2, e3, e4, e5, e6, Option.bind_some]
  have hR : ∃ room, wrap64 (wrap64 (a0 + wrap64 (256 * a1)) * wrap64 (1 + Int.tmod a2 50)) = room ∧ 0 ≤ room ∧ room ≤ 100000000 := by
    rw [Int.tmod_eq_emod_of_nonneg p2, w64 (a := 256 * a1) (by omega) (by omega), w64 (a := a0 + 256 * a1) (by omega) (by omega), w64 (a := 1 + a2 % 50) (by omega) (by omega)]
    have m0 : 0 ≤ (a0 + 256 * a1) * (1 + a2 % 50) := Int.mul_nonneg (by omega) (by omega)
    have m1 : (a0 + 256 * a1) * (1 + a2 % 50) ≤ 65535 * 50 := Int.mul_le_mul (by omega) (by omega) (by omega) (by omega)
    exact ⟨_, rfl, by rw [w64 (by omega) (by omega)]; omega, by rw [w64 (by omega) (by omega)]; omega⟩
  obtain ⟨room, eR, r0, r1⟩ := hR
  have hU : ∃ u, wrap64 (a3 * Int.tmod a4 3) = u ∧ 0 ≤ u ∧ u ≤ 10000 := by
    rw [Int.tmod_eq_emod_of_nonneg p4]
    have m0 : 0 ≤ a3 * (a4 % 3) := Int.mul_nonneg (by omega) (by omega)
    have m1 : a3 * (a4 % 3) ≤ 255 * 2 := Int.mul_le_mul (by omega) (by omega) (by omega) (by omega)
    exact ⟨_, rfl, by rw [w64 (by omega) (by omega)]; omega, by rw [w64 (by omega) (by omega)]; omega⟩
  obtain ⟨u, eU, u0, u1⟩ := hU
  have hD : ∃ d, Int.tmod a6 5 = d ∧ 0 ≤ d ∧ d ≤ 20 := ⟨_, rfl, by rw [Int.tmod_eq_emod_of_nonneg p6]; omega, by rw [Int.tmod_eq_emod_of_nonneg p6]; omega⟩
  obtain ⟨dl, eD, d0, d1⟩ := hD
  have eB : wrap64 (10 + a5) = 10 + a5 := w64 (by omega) (by omega)
  have eW : wrap64 (a7 * 9) = a7 * 9 := w64 (by omega) (by omega)
  simp only [eR, eU, eD, eB]
  have hb : 10 ≤ 10 + a5 ∧ 10 + a5 ≤ 1000 := by omega
  generalize hbb : 10 + a5 = b at *
  have hu : 0 ≤ u ∧ u ≤ 10000 := ⟨u0, u1⟩
  have hroom : 0 ≤ room ∧ room ≤ 100000000 := ⟨r0, r1⟩
  have hdl : 0 ≤ dl ∧ dl ≤ 20 := ⟨d0, d1⟩
  refine Ev.bind (ev_MS hroom hu hb hdl) ?_
  obtain ⟨v0, v1, v2, v3⟩ := mostV_spec room u b dl 10000 0 (by omega)
  have v4 := v3 (by rw [slen_le (by omega)]; omega)
  have ems := ev_sMS hroom hu hb hdl
  generalize mostV room u b dl 0 10000 = v at *
  refine neg_ (by omega) (neg_ (by omega) ?_)
  have hv : 0 ≤ v ∧ v ≤ 10000 := ⟨v0, v1⟩
  have g := slen_bound hv hu hb
  have m0 : 0 ≤ dl * v := Int.mul_nonneg (by omega) (by omega)
  have m1 : dl * v ≤ 20 * 10000 := Int.mul_le_mul (by omega) (by omega) (by omega) (by omega)
  refine Ev.bind (ev_sSlowLen hv hu hb) ?_
  rw [w64 (a := dl * v) (by omega) (by omega), w64 (a := dl * v + slen v u b) (by omega) (by omega)]
  refine neg_ (by omega) (Ev.bind ems ?_)
  have j1 : Ev (fun k => laws_FnMost.j1 k l room u false) true := by
    refine Ev.step (fun k => by rw [laws_FnMost.j1]) (neg_ (by decide) ?_)
    simp only [e7, Option.bind_some, eW]
    have hw9 : 0 ≤ a7 * 9 ∧ a7 * 9 ≤ 10000 := by omega
    refine Ev.bind (ev_LB hroom hw9 hu) ?_
    rcases leastB_spec room (a7 * 9) u 991 10 (by omega) (by omega) with ⟨z, n⟩ | ⟨z0, z1, z2, z3⟩
    · refine pos_ z (Ev.bind (ev_sSlowLen hw9 hu ⟨by omega, by omega⟩) (now_ ?_))
      have := n 1000 (by omega) (by omega)
      simp; omega
    · generalize leastB room (a7 * 9) u 10 991 = c at *
      refine neg_ (by omega) (pos_ (by omega) (pos_ (by omega) (Ev.bind (ev_sSlowLen hw9 hu ⟨by omega, by omega⟩) (pos_ z2 ?_))))
      by_cases e : c = 10
      · exact pos_ e (now_ rfl)
      · refine neg_ e ?_
        rw [w64 (a := c - 1) (by omega) (by omega)]
        refine Ev.bind (ev_sSlowLen hw9 hu ⟨by omega, by omega⟩) (now_ ?_)
        have := z3 (c - 1) (by omega) (by omega)
        simp; omega
  refine Ev.step (fun k => by rw [laws_FnMost.j0]) (neg_ (by simp) ?_)
  by_cases c : v < 10000
  · refine pos_ c ?_
    have g' := slen_bound (v := v + 1) ⟨by omega, by omega⟩ hu hb
    have n0 : 0 ≤ dl * (v + 1) := Int.mul_nonneg (by omega) (by omega)
    have n1 : dl * (v + 1) ≤ 20 * 10000 := Int.mul_le_mul (by omega) (by omega) (by omega) (by omega)
    rw [w64 (a := v + 1) (by omega) (by omega)]
    refine Ev.bind (ev_sSlowLen ⟨by omega, by omega⟩ hu hb) ?_
    rw [w64 (a := dl * (v + 1)) (by omega) (by omega), w64 (a := dl * (v + 1) + slen (v + 1) u b) (by omega) (by omega), decide_eq_false (v2 c)]
    exact j1
  · exact neg_ c j1

end Go.Proofs.Ytlpcaimkkoahiaa.Pure
