/- At every list of bytes the law FnSums answers true: the closed sums hold, and two pieces of whole brakes are one. Conditions: the list holds bytes and fits into memory. -/
import Derived.Test.YtlpcaimkkoahiaaPFnSumsx0
import Derived.Test.YtlpcaimkkoahiaaPFnSumsx1
import Derived.Test.YtlpcaimkkoahiaaMath
import Derived.Test.YtlpcaimkkoahiaaSized
set_option linter.unusedVariables false
set_option linter.unusedSimpArgs false
namespace Go.Proofs.Ytlpcaimkkoahiaa.Pure
open Go.RowKit Go.Proofs.Ytlpcaimkkoahiaa.PFnSums Go.Proofs.YtlpcaimkkoahiaaW.PrintWords Go.Proofs.YtlpcaimkkoahiaaW.PrintLast Go.Proofs.Ytlpcaimkkoahiaa.M

theorem wByte_some (l : List Int) (hw : ∀ x ∈ l, (Lit.int .u8 x).wf = true) (i : Int) (hi : 0 ≤ i) : ∃ r, laws_wByte.f l i = some r ∧ 0 ≤ r ∧ r ≤ 255 := by
  unfold laws_wByte.f
  by_cases c : (l.length : Int) = 0
  · rw [if_pos c]; exact ⟨0, rfl, by omega, by omega⟩
  · rw [if_neg c, Int.tmod_eq_emod_of_nonneg hi]
    have m0 := Int.emod_nonneg i c
    have m1 := Int.emod_lt_of_pos i (show 0 < (l.length : Int) by omega)
    rw [if_pos m0, if_pos m1]
    have hm : rd l (i % l.length) ∈ l := by
      unfold rd
      rw [List.getD_eq_getElem?_getD, List.getElem?_eq_getElem (by omega)]
      exact List.getElem_mem _
    have hq := hw _ hm
    have hb : 0 ≤ rd l (i % l.length) ∧ rd l (i % l.length) ≤ 255 := by
      have hq2 : (decide ((0 : Int) ≤ rd l (i % l.length)) && decide (rd l (i % l.length) ≤ (255 : Int))) = true := hq
      rw [Bool.and_eq_true, decide_eq_true_eq, decide_eq_true_eq] at hq2
      exact hq2
    exact ⟨_, rfl, by rw [w64 (by omega) (by omega)]; exact hb.1, by rw [w64 (by omega) (by omega)]; exact hb.2⟩
theorem speed_t {v : Int} (h : 0 ≤ v ∧ v ≤ 10000) : impl_speed.f v = some true := by
  unfold impl_speed.f; rw [if_pos (by omega)]; simp; omega
theorem speed_f {v : Int} (h : ¬ (0 ≤ v ∧ v ≤ 10000)) : impl_speed.f v = some false := by
  unfold impl_speed.f; split
  · simp; omega
  · rfl
theorem brake_t {v : Int} (h : 10 ≤ v ∧ v ≤ 1000) : impl_brake.f v = some true := by
  unfold impl_brake.f; rw [if_pos (by omega)]; simp; omega
theorem brake_f {v : Int} (h : ¬ (10 ≤ v ∧ v ≤ 1000)) : impl_brake.f v = some false := by
  unfold impl_brake.f; split
  · simp; omega
  · rfl
theorem ev_SlowLen {v u b : Int} (hv : 0 ≤ v ∧ v ≤ 10000) (hu : 0 ≤ u ∧ u ≤ 10000) (hb : 10 ≤ b ∧ b ≤ 1000) : Ev (fun k => impl_SlowLen.f k v u b) (slen v u b) := by
  simp only [impl_SlowLen.f, speed_t hv, speed_t hu, brake_t hb, Option.bind_some, ↓reduceIte]
  refine Ev.step (f := fun _ => some (slen v u b)) (fun k => ?_) (Ev.now _)
  rw [impl_SlowLen.j0, if_neg (by decide)]
  by_cases c : v ≤ u
  · rw [if_pos c, slen_le c]
  · rw [if_neg c, if_neg (by omega)]
    have d := Int.mul_ediv_add_emod (v - u) b
    have m0 := Int.emod_nonneg (v - u) (show b ≠ 0 by omega)
    have m1 := Int.emod_lt_of_pos (v - u) (show 0 < b by omega)
    have q0 : 0 ≤ (v - u) / b := Int.ediv_nonneg (by omega) (by omega)
    have q1 : (v - u) / b ≤ v - u := Int.ediv_le_self _ (by omega)
    have q2 : b * ((v - u) / b) ≤ 10000 := by omega
    have q3 : 0 ≤ b * ((v - u) / b) := Int.mul_nonneg (by omega) q0
    have q4 : (v - u) / b * v ≤ 10000 * 10000 := Int.mul_le_mul (by omega) (by omega) (by omega) (by omega)
    have q5 : 0 ≤ (v - u) / b * v := Int.mul_nonneg q0 (by omega)
    have q6 : b * ((v - u) / b) * ((v - u) / b + 1) ≤ 10000 * 10001 := Int.mul_le_mul q2 (by omega) (by omega) (by omega)
    have q7 : 0 ≤ b * ((v - u) / b) * ((v - u) / b + 1) := Int.mul_nonneg q3 (by omega)
    rw [w64 (a := v - u) (by omega) (by omega), Int.tmod_eq_emod_of_nonneg (by omega), Int.tdiv_eq_ediv_of_nonneg (by omega), w64 (a := (v - u) / b) (by omega) (by omega)]
    rw [w64 (a := b * ((v - u) / b)) (by omega) (by omega), w64 (a := (v - u) / b + 1) (by omega) (by omega), w64 (a := b * ((v - u) / b) * ((v - u) / b + 1)) (by omega) (by omega), w64 (a := (v - u) / b * v) (by omega) (by omega)]
    rw [Int.tdiv_eq_ediv_of_nonneg q7, w64 (a := b * ((v - u) / b) * ((v - u) / b + 1) / 2) (by omega) (by omega), w64 (a := (v - u) / b * v - b * ((v - u) / b) * ((v - u) / b + 1) / 2) (by omega) (by omega)]
    unfold slen
    rw [if_neg c]
    by_cases c2 : 0 < (v - u) % b
    · rw [if_pos c2, if_pos c2, w64 (by omega) (by omega)]
    · rw [if_neg c2, if_neg c2]; simp
theorem ev_SlowLen_f {v u b : Int} (h : ¬ ((0 ≤ v ∧ v ≤ 10000) ∧ (0 ≤ u ∧ u ≤ 10000) ∧ (10 ≤ b ∧ b ≤ 1000))) : Ev (fun k => impl_SlowLen.f k v u b) (-1) := by
  have j : Ev (fun k => impl_SlowLen.j0 k v u b true) (-1) := Ev.step (f := fun _ => some (-1)) (fun k => by rw [impl_SlowLen.j0, if_pos rfl]) (Ev.now _)
  by_cases hv : 0 ≤ v ∧ v ≤ 10000
  · by_cases hu : 0 ≤ u ∧ u ≤ 10000
    · have hb : ¬ (10 ≤ b ∧ b ≤ 1000) := fun hb => h ⟨hv, hu, hb⟩
      simp only [impl_SlowLen.f, speed_t hv, speed_t hu, brake_f hb, Option.bind_some, ↓reduceIte]
      exact j
    · simp only [impl_SlowLen.f, speed_t hv, speed_f hu, Option.bind_some, ↓reduceIte]
      exact j
  · simp only [impl_SlowLen.f, speed_f hv, Option.bind_some]
    exact j
theorem ev_SlowTicks {v u b : Int} (hv : 0 ≤ v ∧ v ≤ 10000) (hu : 0 ≤ u ∧ u ≤ 10000) (hb : 10 ≤ b ∧ b ≤ 1000) : Ev (fun k => impl_SlowTicks.f k v u b) (stk v u b) := by
  simp only [impl_SlowTicks.f, speed_t hv, speed_t hu, brake_t hb, Option.bind_some, ↓reduceIte]
  refine Ev.step (f := fun _ => some (stk v u b)) (fun k => ?_) (Ev.now _)
  rw [impl_SlowTicks.j0, if_neg (by decide)]
  by_cases c : v ≤ u
  · rw [if_pos c, stk_le c]
  · rw [if_neg c, if_neg (by omega)]
    have q0 : 0 ≤ (v - u + b - 1) / b := Int.ediv_nonneg (by omega) (by omega)
    have q1 : (v - u + b - 1) / b ≤ v - u + b - 1 := Int.ediv_le_self _ (by omega)
    rw [w64 (a := v - u) (by omega) (by omega), w64 (a := v - u + b) (by omega) (by omega), w64 (a := v - u + b - 1) (by omega) (by omega), Int.tdiv_eq_ediv_of_nonneg (by omega), w64 (by omega) (by omega)]
    unfold stk
    rw [if_neg c]
theorem ev_SlowTicks_f {v u b : Int} (h : ¬ ((0 ≤ v ∧ v ≤ 10000) ∧ (0 ≤ u ∧ u ≤ 10000) ∧ (10 ≤ b ∧ b ≤ 1000))) : Ev (fun k => impl_SlowTicks.f k v u b) (-1) := by
  have j : Ev (fun k => impl_SlowTicks.j0 k v u b true) (-1) := Ev.step (f := fun _ => some (-1)) (fun k => by rw [impl_SlowTicks.j0, if_pos rfl]) (Ev.now _)
  by_cases hv : 0 ≤ v ∧ v ≤ 10000
  · by_cases hu : 0 ≤ u ∧ u ≤ 10000
    · have hb : ¬ (10 ≤ b ∧ b ≤ 1000) := fun hb => h ⟨hv, hu, hb⟩
      simp only [impl_SlowTicks.f, speed_t hv, speed_t hu, brake_f hb, Option.bind_some, ↓reduceIte]
      exact j
    · simp only [impl_SlowTicks.f, speed_t hv, speed_f hu, Option.bind_some, ↓reduceIte]
      exact j
  · simp only [impl_SlowTicks.f, speed_f hv, Option.bind_some]
    exact j

theorem FnSums : laws_FnSums.Pure := by
  intro l _ _ hw
  refine Ev.rounds ?_
  simp only [laws_FnSums.f]
  by_cases hc : (l.length : Int) > 1048576
  · exact pos_ hc (now_ rfl)
  refine neg_ hc ?_
  obtain ⟨a0, e0, p0, q0⟩ := wByte_some l hw 0 (by omega)
  obtain ⟨a1, e1, p1, q1⟩ := wByte_some l hw 1 (by omega)
  obtain ⟨a2, e2, p2, q2⟩ := wByte_some l hw 2 (by omega)
  obtain ⟨a3, e3, p3, q3⟩ := wByte_some l hw 3 (by omega)
  simp only [e0, e1, e2, Option.bind_some]
  have eB : wrap64 (10 + a0) = 10 + a0 := w64 (by omega) (by omega)
  rw [eB, Int.tmod_eq_emod_of_nonneg p1, Int.tmod_eq_emod_of_nonneg p2]
  have hb : 10 ≤ 10 + a0 ∧ 10 + a0 ≤ 265 := by omega
  generalize 10 + a0 = b at *
  have r0 := Int.emod_nonneg a2 (show b ≠ 0 by omega)
  have r1 := Int.emod_lt_of_pos a2 (show 0 < b by omega)
  have t0 : 0 ≤ a1 % 30 := by omega
  have t1 : a1 % 30 ≤ 29 := by omega
  generalize a2 % b = r at *
  generalize a1 % 30 = q at *
  have m0 : 0 ≤ q * b := Int.mul_nonneg t0 (by omega)
  have m1 : q * b ≤ 29 * 265 := Int.mul_le_mul t1 hb.2 (by omega) (by omega)
  rw [w64 (a := q * b) (by omega) (by omega), w64 (a := q * b + r) (by omega) (by omega)]
  refine neg_ (by omega) ?_
  by_cases big : q * b + r > 10000
  · refine pos_ big (Ev.bind (ev_SlowLen_f (fun h => by omega)) (now_ rfl))
  refine neg_ big ?_
  have hb2 : 10 ≤ b ∧ b ≤ 1000 := by omega
  have hz : (0 : Int) ≤ 0 ∧ (0 : Int) ≤ 10000 := by omega
  have hv : 0 ≤ q * b + r ∧ q * b + r ≤ 10000 := by omega
  have sl := slen_whole (b := b) (r := r) (by omega) (by omega) (by omega) q.toNat
  have sk := stk_whole (b := b) (r := r) (by omega) (by omega) (by omega) q.toNat
  rw [show ((q.toNat : Nat) : Int) = q by omega] at sl sk
  -- a last part
  have hj : ∀ n : Int, stk (q * b + r) 0 b = n → -9223372036854775808 ≤ n → n ≤ 9223372036854775807 → Ev (fun k => laws_FnSums.j0 k l b q r (q * b + r) n) true := by
    intro n hn n0 n1
    refine Ev.step (fun k => by rw [laws_FnSums.j0]) ?_
    refine Ev.bind (ev_SlowLen hv hz hb2) ?_
    obtain ⟨t, h1, h2⟩ := btri b (q - 1)
    have x0 : 0 ≤ b * q := Int.mul_nonneg (by omega) t0
    have x1 : b * q ≤ 265 * 29 := Int.mul_le_mul hb.2 t1 t0 (by omega)
    have x2 : -(265 * 29) ≤ b * q * (q - 1) := by
      by_cases z : q = 0
      · subst z; simp
      · have := Int.mul_nonneg x0 (show 0 ≤ q - 1 by omega); omega
    have x3 : b * q * (q - 1) ≤ 265 * 29 * 29 := by
      by_cases z : q = 0
      · subst z; simp
      · exact Int.mul_le_mul x1 (by omega) (by omega) (by omega)
    have x4 : 0 ≤ b * q * (q - 1) := by
      by_cases z : q = 0
      · subst z; simp
      · exact Int.mul_nonneg x0 (by omega)
    have x5 : 0 ≤ q * r := Int.mul_nonneg t0 r0
    have x6 : q * r ≤ 29 * 265 := Int.mul_le_mul t1 (by omega) r0 (by omega)
    have x7 : b * (q - 1) * (q - 1 + 1) = b * q * (q - 1) := by grind
    rw [w64 (a := q * r) (by omega) (by omega), w64 (a := b * q) (by omega) (by omega), w64 (a := q - 1) (by omega) (by omega), w64 (a := b * q * (q - 1)) (by omega) (by omega), Int.tdiv_eq_ediv_of_nonneg x4, w64 (a := b * q * (q - 1) / 2) (by omega) (by omega), w64 (a := q * r + b * q * (q - 1) / 2) (by omega) (by omega)]
    refine pos_ (by rw [← x7]; exact sl) ?_
    refine Ev.bind (ev_SlowTicks hv hz hb2) ?_
    rw [hn, bne_self_eq_false]
    refine Ev.step (fun k => by rw [laws_FnSums.j1]) (neg_ (by decide) ?_)
    -- the two pieces
    have j2 : ∀ w : Int, ∀ m : Nat, w = q * b + r - m * b → 0 ≤ w → slen (q * b + r) w b + slen w 0 b = slen (q * b + r) 0 b → stk (q * b + r) w b + stk w 0 b = stk (q * b + r) 0 b →
        Ev (fun k => laws_FnSums.j2 k b (q * b + r) n w) true := by
      intro w m hwm hw0 hs ht
      have mb : 0 ≤ (m : Int) * b := Int.mul_nonneg (by omega) (by omega)
      have hw9 : 0 ≤ w ∧ w ≤ 10000 := by omega
      refine Ev.step (fun k => by rw [laws_FnSums.j2]) ?_
      refine Ev.bind (ev_SlowLen hv hw9 hb2) (Ev.bind (ev_SlowLen hw9 hz hb2) (Ev.bind (ev_SlowLen hv hz hb2) ?_))
      have g := slen_bound hv hz hb2
      rw [hs, w64 (a := slen (q * b + r) 0 b) (by omega) (by omega)]
      refine pos_ rfl (Ev.bind (ev_SlowTicks hv hw9 hb2) (Ev.bind (ev_SlowTicks hw9 hz hb2) (now_ ?_)))
      rw [ht, hn, w64 n0 n1]; simp
    by_cases c : q > 0
    · refine pos_ c ?_
      simp only [e3, Option.bind_some]
      rw [w64 (a := q + 1) (by omega) (by omega), Int.tmod_eq_emod_of_nonneg p3]
      refine neg_ (by omega) ?_
      have y0 := Int.emod_nonneg a3 (show q + 1 ≠ 0 by omega)
      have y1 := Int.emod_lt_of_pos a3 (show 0 < q + 1 by omega)
      generalize a3 % (q + 1) = m at *
      have z0 : 0 ≤ b * m := Int.mul_nonneg (by omega) y0
      have z1 : b * m ≤ q * b := by rw [Int.mul_comm q b]; exact Int.mul_le_mul_of_nonneg_left (by omega) (by omega)
      rw [w64 (a := b * m) (by omega) (by omega), w64 (a := q * b + r - b * m) (by omega) (by omega)]
      obtain ⟨m', rfl⟩ : ∃ m' : Nat, m = m' := ⟨m.toNat, by omega⟩
      have hm := Int.mul_comm b (m' : Int)
      obtain ⟨f1, f2⟩ := pieces (b := b) (by omega) m' (q * b + r) (by omega)
      rw [hm]
      refine j2 _ m' rfl (by omega) f1 f2
    · refine neg_ c ?_
      obtain rfl : q = 0 := by omega
      refine j2 r 0 (by simp) (by omega) ?_ ?_
      · rw [Int.zero_mul, Int.zero_add, slen_le (v := r) (u := r) (by omega)]; simp
      · rw [Int.zero_mul, Int.zero_add, stk_le (v := r) (u := r) (by omega)]; simp
  by_cases c : r > 0
  · refine pos_ c ?_
    rw [w64 (a := q + 1) (by omega) (by omega)]
    refine hj (q + 1) ?_ (by omega) (by omega)
    rw [sk, if_pos c]
  · refine neg_ c ?_
    refine hj q ?_ (by omega) (by omega)
    rw [sk, if_neg c]; simp

end Go.Proofs.Ytlpcaimkkoahiaa.Pure
