/- Plain facts on whole numbers that the proofs of this seat use: closed sums of braking, wrap-round, and how a printed function's rounds are gone through. No condition. -/
import Derived.Test.YtgakkndbcilclaaDoorMyWords
set_option linter.unusedVariables false
namespace Go.Proofs.YtgakkndbcilclaaDoor.M
open Go.RowKit Go.Proofs.YtgakkndbcilclaaDoorW.PrintWords

/-! ### rounds -/
theorem pos_ {α : Type} {c : Prop} [Decidable c] {A B : Nat → Option α} {r : α} (hc : c) (h : Ev A r) : Ev (fun k => if c then A k else B k) r := by
  simpa only [if_pos hc] using h
theorem neg_ {α : Type} {c : Prop} [Decidable c] {A B : Nat → Option α} {r : α} (hc : ¬ c) (h : Ev B r) : Ev (fun k => if c then A k else B k) r := by
  simpa only [if_neg hc] using h
theorem bindc {α β : Type} {o : Option α} {f : Nat → α → Option β} {a : α} {r : β} (h : o = some a) (k : Ev (fun n => f n a) r) : Ev (fun n => o.bind (f n)) r := by
  subst h; exact k
theorem now_ {α : Type} {a r : α} (h : a = r) : Ev (fun _ => some a) r := h ▸ Ev.now a
theorem cast_ {α : Type} {g : Nat → Option α} {a r : α} (h : a = r) (k : Ev g a) : Ev g r := h ▸ k
theorem w64 {a : Int} (h0 : -9223372036854775808 ≤ a) (h1 : a ≤ 9223372036854775807) : wrap64 a = a := by unfold wrap64; omega

/-- slowing down: how far -/
def slen (v u b : Int) : Int := if v ≤ u then 0 else (v - u) / b * v - b * ((v - u) / b) * ((v - u) / b + 1) / 2 + (if 0 < (v - u) % b then u else 0)
def stk (v u b : Int) : Int := if v ≤ u then 0 else (v - u + b - 1) / b

theorem tri (q : Int) : ∃ t, q * (q + 1) = 2 * t := by
  rcases (show (∃ m, q = 2 * m) ∨ ∃ m, q = 2 * m + 1 from by
    rcases Int.emod_two_eq q with h | h
    · exact .inl ⟨q / 2, by omega⟩
    · exact .inr ⟨q / 2, by omega⟩) with ⟨m, rfl⟩ | ⟨m, rfl⟩
  · exact ⟨m * (2 * m + 1), by grind⟩
  · exact ⟨(2 * m + 1) * (m + 1), by grind⟩
theorem btri (b q : Int) : ∃ t, q * (q + 1) = 2 * t ∧ b * q * (q + 1) / 2 = b * t := by
  obtain ⟨t, h⟩ := tri q
  refine ⟨t, h, ?_⟩
  have e : b * q * (q + 1) = 2 * (b * t) := by grind
  rw [e]
  exact Int.mul_ediv_cancel_left _ (by decide)
theorem slen_le {v u b : Int} (h : v ≤ u) : slen v u b = 0 := by simp [slen, h]
theorem stk_le {v u b : Int} (h : v ≤ u) : stk v u b = 0 := by simp [stk, h]
theorem slen_last {v u b : Int} (hb : 0 < b) (h : u < v) (h2 : v - b < u) : slen v u b = u := by
  have q0 : (v - u) / b = 0 := Int.ediv_eq_zero_of_lt (by omega) (by omega)
  have r0 : (v - u) % b = v - u := Int.emod_eq_of_lt (by omega) (by omega)
  simp only [slen, q0, r0]
  rw [if_neg (by omega), if_pos (by omega)]; simp
theorem stk_last {v u b : Int} (hb : 0 < b) (h : u < v) (h2 : v - b < u) : stk v u b = 1 := by
  simp only [stk]
  rw [if_neg (by omega)]
  have : v - u + b - 1 = (v - u - 1) + 1 * b := by omega
  rw [this, Int.add_mul_ediv_right _ _ (by omega), Int.ediv_eq_zero_of_lt (by omega) (by omega)]; rfl
theorem slen_more {v u b : Int} (hb : 0 < b) (h : u < v) (h2 : u ≤ v - b) : slen v u b = (v - b) + slen (v - b) u b := by
  have e : v - b - u = (v - u) + (-1) * b := by omega
  have q0 : (v - b - u) / b = (v - u) / b - 1 := by rw [e, Int.add_mul_ediv_right _ _ (by omega)]; omega
  have r0 : (v - b - u) % b = (v - u) % b := by rw [e]; simp
  have d := Int.mul_ediv_add_emod (v - u) b
  obtain ⟨t, h1, h3⟩ := btri b ((v - u) / b)
  obtain ⟨t', h1', h3'⟩ := btri b ((v - u) / b - 1)
  by_cases c : v - b ≤ u
  · obtain rfl : u = v - b := by omega
    have q1 : (v - (v - b)) / b = 1 := by rw [show v - (v - b) = b by omega]; exact Int.ediv_self (by omega)
    have r1 : (v - (v - b)) % b = 0 := by rw [show v - (v - b) = b by omega]; exact Int.emod_self
    rw [slen_le (v := v - b) (u := v - b) (by omega)]
    unfold slen
    have hlt : ¬ (v ≤ v - b) := by omega
    rw [if_neg hlt, q1, r1]; simp
  · simp only [slen, q0, r0, h3, h3']
    rw [if_neg (by omega), if_neg c]
    have : t = t' + (v - u) / b := by grind
    grind
theorem stk_more {v u b : Int} (hb : 0 < b) (h : u < v) (h2 : u ≤ v - b) : stk v u b = 1 + stk (v - b) u b := by
  simp only [stk]
  rw [if_neg (by omega)]
  have e : v - u + b - 1 = (v - b - u + b - 1) + 1 * b := by omega
  by_cases c : v - b ≤ u
  · rw [if_pos c, e, Int.add_mul_ediv_right _ _ (by omega), Int.ediv_eq_zero_of_lt (by omega) (by omega)]; rfl
  · rw [if_neg c, e, Int.add_mul_ediv_right _ _ (by omega)]; omega
theorem slen_nonneg {u b : Int} (hu : 0 ≤ u) (hb : 0 < b) (d : Nat) : ∀ v : Int, v ≤ d → 0 ≤ slen v u b := by
  induction d with
  | zero => intro v h; rw [slen_le (by omega)]; exact Int.le_refl 0
  | succ d ih =>
    intro v h
    by_cases c : v ≤ u
    · rw [slen_le c]; exact Int.le_refl 0
    · by_cases c2 : v - b < u
      · rw [slen_last hb (by omega) c2]; exact hu
      · rw [slen_more hb (by omega) (by omega)]
        have := ih (v - b) (by omega)
        omega
theorem slen_bound {v u b : Int} (hv : 0 ≤ v ∧ v ≤ 10000) (hu : 0 ≤ u ∧ u ≤ 10000) (hb : 10 ≤ b ∧ b ≤ 1000) : 0 ≤ slen v u b ∧ slen v u b ≤ 200000000 := by
  refine ⟨slen_nonneg hu.1 (by omega) v.toNat v (by omega), ?_⟩
  unfold slen
  by_cases c : v ≤ u
  · rw [if_pos c]; omega
  · rw [if_neg c]
    have q0 : 0 ≤ (v - u) / b := Int.ediv_nonneg (by omega) (by omega)
    have q1 : (v - u) / b ≤ v - u := Int.ediv_le_self _ (by omega)
    have q4 : (v - u) / b * v ≤ 10000 * 10000 := Int.mul_le_mul (by omega) (by omega) (by omega) (by omega)
    have q7 : 0 ≤ b * ((v - u) / b) * ((v - u) / b + 1) := Int.mul_nonneg (Int.mul_nonneg (by omega) q0) (by omega)
    split <;> omega
/-- the least brake, tried upward -/
def leastB (room v u : Int) : Int → Nat → Int
  | _, 0 => 0
  | b, d + 1 => if slen v u b ≤ room then b else leastB room v u (b + 1) d
/-- the greatest speed, tried upward -/
def mostV (room u b delay : Int) : Int → Nat → Int
  | v, 0 => v
  | v, d + 1 => if delay * (v + 1) + slen (v + 1) u b ≤ room then mostV room u b delay (v + 1) d else v
theorem mostV_spec (room u b delay : Int) (d : Nat) : ∀ v : Int, v + d = 10000 → v ≤ mostV room u b delay v d ∧ mostV room u b delay v d ≤ 10000 ∧
    (mostV room u b delay v d < 10000 → ¬ (delay * (mostV room u b delay v d + 1) + slen (mostV room u b delay v d + 1) u b ≤ room)) ∧
    (delay * v + slen v u b ≤ room → delay * mostV room u b delay v d + slen (mostV room u b delay v d) u b ≤ room) := by
  induction d with
  | zero =>
    intro v h
    simp only [mostV]
    exact ⟨by omega, by omega, fun x => by omega, fun x => x⟩
  | succ d ih =>
    intro v h
    simp only [mostV]
    by_cases c : delay * (v + 1) + slen (v + 1) u b ≤ room
    · rw [if_pos c]
      obtain ⟨h1, h2, h3, h4⟩ := ih (v + 1) (by omega)
      exact ⟨by omega, h2, h3, fun _ => h4 c⟩
    · rw [if_neg c]
      exact ⟨by omega, by omega, fun _ => c, fun x => x⟩
theorem leastB_spec (room v u : Int) (d : Nat) : ∀ b : Int, 10 ≤ b → b + d = 1001 → (leastB room v u b d = 0 ∧ ∀ c, b ≤ c → c ≤ 1000 → ¬ slen v u c ≤ room) ∨
    (b ≤ leastB room v u b d ∧ leastB room v u b d ≤ 1000 ∧ slen v u (leastB room v u b d) ≤ room ∧ ∀ c, b ≤ c → c < leastB room v u b d → ¬ slen v u c ≤ room) := by
  induction d with
  | zero =>
    intro b h0 h1
    exact .inl ⟨rfl, fun c h2 h3 => by omega⟩
  | succ d ih =>
    intro b h0 h1
    simp only [leastB]
    by_cases c : slen v u b ≤ room
    · rw [if_pos c]
      exact .inr ⟨by omega, by omega, c, fun x h2 h3 => by omega⟩
    · rw [if_neg c]
      rcases ih (b + 1) (by omega) (by omega) with ⟨h2, h3⟩ | ⟨h2, h3, h4, h5⟩
      · refine .inl ⟨h2, fun x h6 h7 => ?_⟩
        by_cases e : x = b
        · rw [e]; exact c
        · exact h3 x (by omega) h7
      · refine .inr ⟨by omega, h3, h4, fun x h6 h7 => ?_⟩
        by_cases e : x = b
        · rw [e]; exact c
        · exact h5 x (by omega) h7
theorem slen_whole {b r : Int} (hb : 0 < b) (hr : 0 ≤ r) (hr2 : r < b) (q : Nat) : slen (q * b + r) 0 b = q * r + b * (q - 1) * (q - 1 + 1) / 2 := by
  induction q with
  | zero =>
    by_cases c : r ≤ 0
    · rw [slen_le (by simp; omega)]; simp
    · rw [slen_last hb (by simp; omega) (by simp; omega)]; simp
  | succ q ih =>
    have e : ((q + 1 : Nat) : Int) * b + r = (q : Int) * b + r + b := by rw [Int.natCast_add, Int.add_mul]; simp; omega
    have m0 : 0 ≤ (q : Int) * b := Int.mul_nonneg (by omega) (by omega)
    rw [e, slen_more hb (by omega) (by omega), show (q : Int) * b + r + b - b = (q : Int) * b + r by omega, ih]
    obtain ⟨t, h1, h2⟩ := btri b ((q : Int) - 1)
    obtain ⟨t', h1', h2'⟩ := btri b (((q + 1 : Nat) : Int) - 1)
    rw [h2, h2']
    rw [show ((q + 1 : Nat) : Int) - 1 = q by omega] at h1'
    have : t' = t + q := by grind
    grind
theorem stk_whole {b r : Int} (hb : 0 < b) (hr : 0 ≤ r) (hr2 : r < b) (q : Nat) : stk (q * b + r) 0 b = q + (if r > 0 then 1 else 0) := by
  induction q with
  | zero =>
    by_cases c : r ≤ 0
    · rw [stk_le (by simp; omega), if_neg (by omega)]; simp
    · rw [stk_last hb (by simp; omega) (by simp; omega), if_pos (by omega)]; simp
  | succ q ih =>
    have e : ((q + 1 : Nat) : Int) * b + r = (q : Int) * b + r + b := by rw [Int.natCast_add, Int.add_mul]; simp; omega
    have m0 : 0 ≤ (q : Int) * b := Int.mul_nonneg (by omega) (by omega)
    rw [e, stk_more hb (by omega) (by omega), show (q : Int) * b + r + b - b = (q : Int) * b + r by omega, ih]
    omega
theorem pieces {b : Int} (hb : 0 < b) (m : Nat) : ∀ v : Int, 0 ≤ v - m * b → slen v (v - m * b) b + slen (v - m * b) 0 b = slen v 0 b ∧ stk v (v - m * b) b + stk (v - m * b) 0 b = stk v 0 b := by
  induction m with
  | zero => intro v h; rw [slen_le (v := v) (u := v - (0 : Nat) * b) (by simp), stk_le (v := v) (u := v - (0 : Nat) * b) (by simp)]; simp
  | succ m ih =>
    intro v h
    have e : v - ((m + 1 : Nat) : Int) * b = (v - b) - (m : Int) * b := by rw [Int.natCast_add, Int.add_mul]; simp; omega
    have m0 : 0 ≤ (m : Int) * b := Int.mul_nonneg (by omega) (by omega)
    rw [e] at h ⊢
    obtain ⟨h1, h2⟩ := ih (v - b) h
    rw [slen_more (v := v) hb (by omega) (by omega), stk_more (v := v) hb (by omega) (by omega), slen_more (v := v) (u := 0) hb (by omega) (by omega), stk_more (v := v) (u := 0) hb (by omega) (by omega)]
    omega
end Go.Proofs.YtgakkndbcilclaaDoor.M
