/- Plain facts, with no program in sight: a train that brakes by a rate R and keeps to limits O, an end and a delay; greatest speeds; what is tighter is no safer. No condition. -/
import Derived.Test.YtgakkndbcilclaaDoorMath
set_option linter.unusedVariables false
set_option linter.unusedSimpArgs false
namespace Go.Proofs.YtgakkndbcilclaaDoor.M
open Go.RowKit Go.Proofs.YtgakkndbcilclaaDoorW.PrintWords
/-! ### lists -/
theorem drop_cons_getD {α : Type} (l : List α) (i : Int) (d : α) (h0 : 0 ≤ i) (h1 : i < l.length) : l.drop i.toNat = l.getD i.toNat d :: l.drop (i + 1).toNat := by
  have h2 : i.toNat < l.length := by omega
  rw [List.drop_eq_getElem_cons h2, List.getD_eq_getElem?_getD, List.getElem?_eq_getElem h2, show (i + 1).toNat = i.toNat + 1 by omega]; rfl
theorem drop_len {α : Type} (l : List α) (i : Int) (h : i = l.length) : l.drop i.toNat = [] := by
  rw [h, Int.toNat_natCast, List.drop_length]
theorem getD_mem' {α : Type} (l : List α) (i : Int) (d : α) (h0 : 0 ≤ i) (h1 : i < l.length) : l.getD i.toNat d ∈ l := by
  rw [List.getD_eq_getElem?_getD, List.getElem?_eq_getElem (by omega)]; exact List.getElem_mem _
/-! ### a train -/
def less (v b : Int) : Int := if v < b then 0 else v - b
theorem less_nonneg (v b : Int) : 0 ≤ less v b := by unfold less; split <;> omega
theorem less_le {v b : Int} (hb : 0 ≤ b) (hv : 0 ≤ v) : less v b ≤ v := by unfold less; split <;> omega
section
variable (R : Int → Int) (O : Int → Int → Int) (en de : Int)
/-- It may move by v from x. -/
def may (x v : Int) : Bool := if v = 0 then decide (x ≤ en) else decide (x + v ≤ en) && decide (v ≤ O x (x + v))
def sfA : Nat → Int → Int → Int → Bool
  | 0, _, _, _ => false
  | f + 1, x, v, n => may O en x v && (decide (v = 0) || sfA f (x + v) (if de ≤ n then less v (R x) else v) (n + 1))
def sf (x v n : Int) : Bool := sfA R O en de ((en - x).toNat + 2) x v n
end
section
variable {R : Int → Int} {O : Int → Int → Int} {en de : Int}
theorem may_end {x v : Int} (hv : 0 ≤ v) (h : may O en x v = true) : x + v ≤ en := by
  unfold may at h
  split at h
  · have := of_decide_eq_true h; omega
  · rw [Bool.and_eq_true] at h; exact of_decide_eq_true h.1
theorem may_lim {x v : Int} (h0 : v ≠ 0) (h : may O en x v = true) : v ≤ O x (x + v) := by
  unfold may at h
  rw [if_neg h0, Bool.and_eq_true] at h; exact of_decide_eq_true h.2
theorem next_nonneg {x v n : Int} (hv : 0 ≤ v) : 0 ≤ (if de ≤ n then less v (R x) else v) := by
  split
  · exact less_nonneg _ _
  · exact hv
theorem sfA_fuel (d : Nat) : ∀ f g : Nat, ∀ x v n : Int, 0 ≤ v → (en - x).toNat ≤ d → (en - x).toNat + 1 < f → (en - x).toNat + 1 < g → sfA R O en de f x v n = sfA R O en de g x v n := by
  induction d with
  | zero =>
    intro f g x v n hv hd hf hg
    obtain ⟨f, rfl⟩ : ∃ f', f = f' + 1 := ⟨f - 1, by omega⟩
    obtain ⟨g, rfl⟩ : ∃ g', g = g' + 1 := ⟨g - 1, by omega⟩
    simp only [sfA]
    by_cases hm : may O en x v = true
    · by_cases h0 : v = 0
      · simp [h0]
      · have := may_end hv hm; omega
    · simp only [Bool.not_eq_true] at hm; simp [hm]
  | succ d ih =>
    intro f g x v n hv hd hf hg
    obtain ⟨f, rfl⟩ : ∃ f', f = f' + 1 := ⟨f - 1, by omega⟩
    obtain ⟨g, rfl⟩ : ∃ g', g = g' + 1 := ⟨g - 1, by omega⟩
    simp only [sfA]
    by_cases hm : may O en x v = true
    · by_cases h0 : v = 0
      · simp [h0]
      · have := may_end hv hm
        rw [ih f g (x + v) _ (n + 1) (next_nonneg hv) (by omega) (by omega) (by omega)]
    · simp only [Bool.not_eq_true] at hm; simp [hm]
theorem sf_eq {x v n : Int} (hv : 0 ≤ v) : sf R O en de x v n = (may O en x v && (decide (v = 0) || sf R O en de (x + v) (if de ≤ n then less v (R x) else v) (n + 1))) := by
  by_cases hm : may O en x v = true
  · by_cases h0 : v = 0
    · unfold sf; simp [sfA, h0]
    · have := may_end hv hm
      have e : sf R O en de x v n = (may O en x v && (decide (v = 0) || sfA R O en de ((en - x).toNat + 1) (x + v) (if de ≤ n then less v (R x) else v) (n + 1))) := by
        unfold sf; simp only [sfA]
      rw [e, sfA_fuel (en - (x + v)).toNat _ ((en - (x + v)).toNat + 2) (x + v) _ (n + 1) (next_nonneg hv) (Nat.le_refl _) (by omega) (by omega)]
      rfl
  · simp only [Bool.not_eq_true] at hm
    unfold sf; simp [sfA, hm]
theorem sf_zero {x n : Int} : sf R O en de x 0 n = decide (x ≤ en) := by
  rw [sf_eq (Int.le_refl 0)]; simp [may]
theorem sf_may {x v n : Int} (hv : 0 ≤ v) (h : sf R O en de x v n = true) : may O en x v = true := by
  rw [sf_eq hv, Bool.and_eq_true] at h; exact h.1
theorem less_zero {b : Int} (hb : 0 ≤ b) : less 0 b = 0 := by unfold less; split <;> omega
theorem sf_next (hR : ∀ x, 0 ≤ R x) {x v n : Int} (hv : 0 ≤ v) (h : sf R O en de x v n = true) : sf R O en de (x + v) (if de ≤ n then less v (R x) else v) (n + 1) = true := by
  rw [sf_eq hv, Bool.and_eq_true] at h
  by_cases h0 : v = 0
  · subst h0
    have h1 : x ≤ en := by have := may_end (Int.le_refl 0) h.1; omega
    have e : (if de ≤ n then less 0 (R x) else 0) = (0 : Int) := by
      split
      · exact less_zero (hR x)
      · rfl
    rw [e, sf_zero, Int.add_zero]; exact decide_eq_true h1
  · have := h.2
    simpa [h0] using this
/-- From a safe move on, the speed is kept for the delay and one tick more. -/
theorem sf_keeps (hR : ∀ x, 0 ≤ R x) (j : Nat) : ∀ {x v n : Int}, 0 ≤ v → n + j ≤ de → sf R O en de x v n = true → sf R O en de (x + v * j) v (n + j) = true := by
  induction j with
  | zero => intro x v n hv hn h; simpa using h
  | succ j ih =>
    intro x v n hv hn h
    have h1 := ih (x := x) hv (by omega) h
    have h2 := sf_next hR hv h1
    rw [if_neg (by omega)] at h2
    rw [show v * ((j + 1 : Nat) : Int) = v * j + v by rw [Int.natCast_add, Int.mul_add]; simp, show n + ((j + 1 : Nat) : Int) = n + j + 1 by omega, show x + (v * (j : Int) + v) = x + v * j + v by omega]
    exact h2
theorem sf_far (hR : ∀ x, 0 ≤ R x) (hd : 0 ≤ de) {x v : Int} (hv : 0 ≤ v) (h : sf R O en de x v 0 = true) : x + v * (de + 1) ≤ en := by
  have h1 := sf_keeps hR de.toNat (x := x) hv (by omega) h
  have h2 := may_end hv (sf_may hv h1)
  rw [show v * (de + 1) = v * ((de.toNat : Nat) : Int) + v by rw [Int.mul_add, show ((de.toNat : Nat) : Int) = de by omega]; simp]
  omega
end
/-- WHAT IS TIGHTER IS NO SAFER: smaller limits, a nearer end. -/
theorem sf_tight {R : Int → Int} {O O' : Int → Int → Int} {en en' de : Int} (hO : ∀ a b, O' a b ≤ O a b) (hen : en' ≤ en) (d : Nat) : ∀ {x v n : Int}, 0 ≤ v → (en' - x).toNat ≤ d → sf R O' en' de x v n = true → sf R O en de x v n = true := by
  have hmay : ∀ {x v : Int}, 0 ≤ v → may O' en' x v = true → may O en x v = true := by
    intro x v hv h
    unfold may at h ⊢
    by_cases h0 : v = 0
    · rw [if_pos h0] at h ⊢; have := of_decide_eq_true h; exact decide_eq_true (by omega)
    · rw [if_neg h0] at h ⊢
      rw [Bool.and_eq_true] at h ⊢
      have h1 := of_decide_eq_true h.1
      have h2 := of_decide_eq_true h.2
      exact ⟨decide_eq_true (by omega), decide_eq_true (by have := hO x (x + v); omega)⟩
  induction d with
  | zero =>
    intro x v n hv hd h
    rw [sf_eq hv, Bool.and_eq_true] at h
    by_cases h0 : v = 0
    · subst h0; rw [sf_zero]; have := may_end (Int.le_refl 0) h.1; exact decide_eq_true (by omega)
    · have := may_end hv h.1; omega
  | succ d ih =>
    intro x v n hv hd h
    rw [sf_eq hv, Bool.and_eq_true] at h
    by_cases h0 : v = 0
    · subst h0; rw [sf_zero]; have := may_end (Int.le_refl 0) h.1; exact decide_eq_true (by omega)
    · have h1 := may_end hv h.1
      have h2 := h.2
      simp only [h0, decide_false, Bool.false_or] at h2
      rw [sf_eq hv, Bool.and_eq_true]
      refine ⟨hmay hv h.1, ?_⟩
      simp only [h0, decide_false, Bool.false_or]
      exact ih (next_nonneg hv) (by omega) h2
/-! ### greatest speeds -/
section
variable (S : Int → Bool)
/-- the greatest v such that all from the start on are S, tried upward (v is the last one that is) -/
def mostA : Int → Nat → Int
  | v, 0 => v
  | v, d + 1 => if S (v + 1) = true then mostA (v + 1) d else v
variable {S}
theorem mostA_spec (d : Nat) : ∀ v : Int, v + d = 10000 → v ≤ mostA S v d ∧ mostA S v d ≤ 10000 ∧ (mostA S v d < 10000 → S (mostA S v d + 1) = false) ∧ (∀ u, v < u → u ≤ mostA S v d → S u = true) := by
  induction d with
  | zero =>
    intro v h
    simp only [mostA]
    exact ⟨by omega, by omega, fun x => by omega, fun u h1 h2 => by omega⟩
  | succ d ih =>
    intro v h
    simp only [mostA]
    by_cases c : S (v + 1) = true
    · rw [if_pos c]
      obtain ⟨h1, h2, h3, h4⟩ := ih (v + 1) (by omega)
      refine ⟨by omega, h2, h3, fun u h5 h6 => ?_⟩
      by_cases e : u = v + 1
      · rw [e]; exact c
      · exact h4 u (by omega) h6
    · rw [if_neg c]
      exact ⟨by omega, by omega, fun _ => by simpa using c, fun u h5 h6 => by omega⟩
theorem mostA_mono {S' : Int → Bool} (h : ∀ v, 0 ≤ v → S v = true → S' v = true) (d : Nat) : ∀ v : Int, -1 ≤ v → mostA S v d ≤ mostA S' v d := by
  have key : ∀ (T : Int → Bool) (d : Nat) (v : Int), v ≤ mostA T v d := by
    intro T d
    induction d with
    | zero => intro v; exact Int.le_refl v
    | succ d ih =>
      intro v
      simp only [mostA]
      split
      · have := ih (v + 1); omega
      · exact Int.le_refl v
  induction d with
  | zero => intro v _; exact Int.le_refl v
  | succ d ih =>
    intro v hv
    simp only [mostA]
    by_cases c : S (v + 1) = true
    · rw [if_pos c, if_pos (h (v + 1) (by omega) c)]; exact ih (v + 1) (by omega)
    · rw [if_neg c]
      split
      · have := key S' d (v + 1); omega
      · exact Int.le_refl v
end
/-! ### watching -/
section
variable (R : Int → Int) (O : Int → Int → Int) (en de : Int)
def wok (x w : Int) : Bool := decide (0 ≤ w) && decide (w ≤ 10000) && sf R O en de x w 0
/-- what is let do from here on: the speeds, how often the brake comes, where it ends -/
def wrun : List Int → Bool → Int → Int → Int → Int → List Int × Int × Int
  | [], _, _, _, _, x => ([], 0, x)
  | w :: ws, first, v, was, n, x =>
    if wok R O en de x w = true then (w :: (wrun ws false w x 0 (x + w)).1, (wrun ws false w x 0 (x + w)).2.1, (wrun ws false w x 0 (x + w)).2.2)
    else if first = true then (v :: (wrun ws false v x n (x + v)).1, 1 + (wrun ws false v x n (x + v)).2.1, (wrun ws false v x n (x + v)).2.2)
    else ((if de ≤ n then less v (R was) else v) :: (wrun ws false (if de ≤ n then less v (R was) else v) x (n + 1) (x + (if de ≤ n then less v (R was) else v))).1,
      1 + (wrun ws false (if de ≤ n then less v (R was) else v) x (n + 1) (x + (if de ≤ n then less v (R was) else v))).2.1,
      (wrun ws false (if de ≤ n then less v (R was) else v) x (n + 1) (x + (if de ≤ n then less v (R was) else v))).2.2)
/-- moves, one after the other, each allowed -/
def moves : List Int → Int → Int → Prop
  | [], x, y => x = y
  | v :: l, x, y => 0 ≤ v ∧ v ≤ 10000 ∧ may O en x v = true ∧ moves l (x + v) y
variable {R O en de}
/-- No move of a train that is watched is too fast or too far. -/
theorem wrun_moves (hR : ∀ x, 0 ≤ R x) (ws : List Int) : ∀ (first : Bool) (v was n x : Int), 0 ≤ v → v ≤ 10000 → 0 ≤ n →
    (first = true → n = 0 ∧ sf R O en de x v 0 = true) → (first = false → sf R O en de x (if de ≤ n then less v (R was) else v) (n + 1) = true) →
    moves O en (wrun R O en de ws first v was n x).1 x (wrun R O en de ws first v was n x).2.2 := by
  induction ws with
  | nil => intro first v was n x _ _ _ _ _; exact rfl
  | cons w ws ih =>
    intro first v was n x hv hv2 hn h1 h2
    by_cases c : wok R O en de x w = true
    · simp only [wrun, if_pos c]
      unfold wok at c
      rw [Bool.and_eq_true, Bool.and_eq_true] at c
      have w0 := of_decide_eq_true c.1.1
      have w1 := of_decide_eq_true c.1.2
      exact ⟨w0, w1, sf_may w0 c.2, ih false w x 0 (x + w) w0 w1 (Int.le_refl 0) (fun z => by cases z) (fun _ => sf_next hR w0 c.2)⟩
    · cases first with
      | true =>
        simp only [wrun, if_neg c, if_pos]
        obtain ⟨rfl, h3⟩ := h1 rfl
        exact ⟨hv, hv2, sf_may hv h3, ih false v x 0 (x + v) hv hv2 (Int.le_refl 0) (fun z => by cases z) (fun _ => sf_next hR hv h3)⟩
      | false =>
        simp only [wrun, if_neg c]
        have h3 := h2 rfl
        have v0 : 0 ≤ (if de ≤ n then less v (R was) else v) := next_nonneg hv
        have v1 : (if de ≤ n then less v (R was) else v) ≤ 10000 := by
          split
          · have := less_le (hR was) hv; omega
          · exact hv2
        exact ⟨v0, v1, sf_may v0 h3, ih false _ x (n + 1) _ v0 v1 (by omega) (fun z => by cases z) (fun _ => sf_next hR v0 h3)⟩
theorem wrun_length (ws : List Int) : ∀ (first : Bool) (v was n x : Int), (wrun R O en de ws first v was n x).1.length = ws.length := by
  induction ws with
  | nil => intros; rfl
  | cons w ws ih =>
    intro first v was n x
    simp only [wrun]
    split
    · simp [ih]
    · split <;> simp [ih]
theorem wrun_braked (ws : List Int) : ∀ (first : Bool) (v was n x : Int), 0 ≤ (wrun R O en de ws first v was n x).2.1 ∧ (wrun R O en de ws first v was n x).2.1 ≤ ws.length := by
  induction ws with
  | nil => intros; exact ⟨Int.le_refl 0, Int.le_refl 0⟩
  | cons w ws ih =>
    intro first v was n x
    simp only [wrun]
    split
    · have := ih false w x 0 (x + w); simp only [List.length_cons]; omega
    · split
      · have := ih false v x n (x + v); simp only [List.length_cons]; omega
      · have := ih false (if de ≤ n then less v (R was) else v) x (n + 1) (x + (if de ≤ n then less v (R was) else v)); simp only [List.length_cons]; omega
end
end Go.Proofs.YtgakkndbcilclaaDoor.M
