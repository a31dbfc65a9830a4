/- A number and the word behind it, of the reference, against the same tokens of a form; which words stand where. Condition: the text is no longer than the program takes. -/
import Derived.Test.YtanjbdgmnecacaaDoorPTx19
import Derived.Test.YtanjbdgmnecacaaDoorPrLm
set_option linter.unusedVariables false
set_option linter.unusedSimpArgs false
namespace Go.Proofs.YtanjbdgmnecacaaDoor.Pure
open Go.RowKit Go.Proofs.YtanjbdgmnecacaaDoorW.PrintWords Go.Proofs.YtanjbdgmnecacaaDoorW.PrintLast Go.Proofs.YtanjbdgmnecacaaDoor.PT Go.Proofs.YtanjbdgmnecacaaDoor.M
section
variable {t F S : ByteArray}
theorem mst_true (t S : ByteArray) (d : Nat) : ∀ i p : Int, (mst t S d i p).2 = true → ∀ q : Nat, q < d → p + q < t.size ∧ bt t (p + q) = bt S (i + q) := by
  induction d with
  | zero => intro i p _ q hq; omega
  | succ d ih =>
    intro i p h q hq
    simp only [mst] at h
    by_cases c : p < t.size ∧ bt t p = bt S i
    · rw [if_pos c] at h
      match q, hq with
      | 0, _ => simpa using c
      | q + 1, hq =>
        have := ih (i + 1) (p + 1) h q (by omega)
        rw [show p + ((q + 1 : Nat) : Int) = p + 1 + q by omega, show i + ((q + 1 : Nat) : Int) = i + 1 + q by omega]; exact this
    · rw [if_neg c] at h; cases h
theorem mst_part (t S : ByteArray) (q : Nat) : ∀ (d : Nat) (i p : Int), q < d → (∀ j : Nat, j < q → p + j < t.size ∧ bt t (p + j) = bt S (i + j)) → ¬ (p + q < t.size ∧ bt t (p + q) = bt S (i + q)) → mst t S d i p = (p + q, false) := by
  induction q with
  | zero =>
    intro d i p hd _ h
    obtain ⟨d', rfl⟩ : ∃ d', d = d' + 1 := ⟨d - 1, by omega⟩
    simp only [mst]
    rw [if_neg (by simpa using h)]; simp
  | succ q ih =>
    intro d i p hd hj h
    obtain ⟨d', rfl⟩ : ∃ d', d = d' + 1 := ⟨d - 1, by omega⟩
    simp only [mst]
    rw [if_pos (by simpa using hj 0 (by omega))]
    rw [ih d' (i + 1) (p + 1) (by omega) (fun j h2 => by have := hj (j + 1) (by omega); rw [show p + 1 + (j : Int) = p + ((j + 1 : Nat) : Int) by omega, show i + 1 + (j : Int) = i + ((j + 1 : Nat) : Int) by omega]; exact this) (fun z => h (by rw [show p + ((q + 1 : Nat) : Int) = p + 1 + q by omega, show i + ((q + 1 : Nat) : Int) = i + 1 + q by omega]; exact z))]
    rw [show p + 1 + (q : Int) = p + ((q + 1 : Nat) : Int) by omega]
/-- One number and the word behind it: the form's way and the reference's. -/
theorem seg {m e : Nat} {i p : Int} {ns : List Int} (hp : p ≤ t.size) (h0 : 0 ≤ p) (hi : bt F i = 35) (hS : ∀ q : Nat, q < m → bt F (i + 1 + q) = bt S q ∧ bt S q ≠ 35) (hm : 0 < m) (hd : ¬ (48 ≤ bt S 0 ∧ bt S 0 ≤ 57)) :
    ((numE t (num t p)).2.2 = -1 ∧ (mst t S m 0 (numE t (num t p)).2.1).2 = true ∧ p ≤ (numE t (num t p)).2.1 ∧ (numE t (num t p)).2.1 ≤ t.size ∧ mtc t F (m + e + 1) i p ns = mtc t F e (i + 1 + m) (mst t S m 0 (numE t (num t p)).2.1).1 (ns ++ [(numE t (num t p)).1])) ∨
    (∃ b ns', mtc t F (m + e + 1) i p ns = (ns', b, false) ∧ p ≤ b ∧ b ≤ t.size ∧ ((numE t (num t p)).2.2 = b ∨ ((numE t (num t p)).2.2 = -1 ∧ p ≤ (numE t (num t p)).2.1 ∧ (numE t (num t p)).2.1 ≤ t.size ∧ mst t S m 0 (numE t (num t p)).2.1 = (b, false)))) := by
  have hn := num_spec hp
  rw [mtc_num hi]
  generalize num t p = r at hn
  obtain ⟨v, q, c⟩ := r
  simp only at hn ⊢
  have hw := mtc_word (t := t) (F := F) (S := S) e m (i + 1) 0 q (ns ++ [v]) (fun j hj => by have := hS j hj; rw [Int.zero_add]; exact this)
  unfold numE
  simp only
  by_cases c1 : c = 0
  · simp only [if_pos c1]
    refine .inr ⟨q, ns, by first | rfl | trivial, by omega, by omega, .inl ?_⟩
    by_cases c2 : dig t q
    · simp only [if_pos c2]
    · simp only [if_neg c2]
  · simp only [if_neg c1]
    rw [hw]
    by_cases c2 : dig t q
    · simp only [if_pos c2]
      have : mst t S m 0 q = (q + (0 : Nat), false) := mst_part t S 0 m 0 q hm (fun j h => by omega) (fun z => hd (by
        have h2 := z.2
        simp only [Int.natCast_zero, Int.add_zero] at h2
        rw [← h2]; exact ⟨c2.2.1, c2.2.2⟩))
      rw [this]
      exact .inr ⟨q, ns ++ [v], by simp, by omega, by omega, .inl (by first | rfl | trivial)⟩
    · simp only [if_neg c2]
      have hl := mst_le t S m 0 q (by omega)
      by_cases c3 : (mst t S m 0 q).2 = true
      · rw [if_pos c3]
        exact .inl ⟨by first | rfl | trivial, c3, by omega, by omega, by first | rfl | trivial⟩
      · rw [if_neg c3]
        rw [Bool.not_eq_true] at c3
        exact .inr ⟨(mst t S m 0 q).1, ns ++ [v], by first | rfl | trivial, by omega, by omega, .inr ⟨by first | rfl | trivial, by omega, by omega, by rw [← c3]⟩⟩
end
end Go.Proofs.YtanjbdgmnecacaaDoor.Pure
