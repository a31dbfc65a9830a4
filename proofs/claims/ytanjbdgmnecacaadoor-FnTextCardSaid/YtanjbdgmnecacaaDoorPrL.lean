/- Reading a text: going along a form, a number, a word, of the program and of the reference, as plain functions of the text and the place. Condition: the text is no longer than the program takes. -/
import Derived.Test.YtanjbdgmnecacaaDoorPrA
set_option linter.unusedVariables false
set_option linter.unusedSimpArgs false
namespace Go.Proofs.YtanjbdgmnecacaaDoor.M
open Go.RowKit Go.Proofs.YtanjbdgmnecacaaDoorW.PrintWords
section
/-- A number from a place on: its value, where it ends, how many digits. -/
def numA (t : ByteArray) : Nat → Int → Int → Int → Int × Int × Int
  | 0, p, n, c => (n, p, c)
  | f + 1, p, n, c => if (p < t.size ∧ 48 ≤ bt t p ∧ bt t p ≤ 57) ∧ c < 9 ∧ ¬ (c = 1 ∧ n = 0) then numA t f (p + 1) (10 * n + (bt t p - 48)) (c + 1) else (n, p, c)
def num (t : ByteArray) (p : Int) : Int × Int × Int := numA t 10 p 0 0
/-- Along a form (35 is a number's mark). -/
def mtc (t F : ByteArray) : Nat → Int → Int → List Int → List Int × Int × Bool
  | 0, _, p, ns => (ns, p, true)
  | d + 1, i, p, ns => if bt F i = 35 then (if (num t p).2.2 = 0 then (ns, (num t p).2.1, false) else mtc t F d (i + 1) (num t p).2.1 (ns ++ [(num t p).1]))
    else if p < t.size ∧ bt t p = bt F i then mtc t F d (i + 1) (p + 1) ns else (ns, p, false)
/-- Along a word. -/
def mst (t S : ByteArray) : Nat → Int → Int → Int × Bool
  | 0, _, p => (p, true)
  | d + 1, i, p => if p < t.size ∧ bt t p = bt S i then mst t S d (i + 1) (p + 1) else (p, false)
theorem bt_bounds (s : ByteArray) (i : Int) : 0 ≤ bt s i ∧ bt s i ≤ 255 := by
  unfold bt
  split
  · rename_i h
    have := (s[i.toNat]'h).toNat_lt
    constructor
    · exact Int.natCast_nonneg _
    · omega
  · exact ⟨by decide, by decide⟩
theorem numA_spec (t : ByteArray) (f : Nat) : ∀ p n c : Int, p ≤ t.size → p ≤ (numA t f p n c).2.1 ∧ (numA t f p n c).2.1 ≤ t.size ∧ (numA t f p n c).2.2 = c + ((numA t f p n c).2.1 - p) := by
  induction f with
  | zero => intro p n c h1; simp only [numA]; omega
  | succ f ih =>
    intro p n c h1
    simp only [numA]
    by_cases h : (p < t.size ∧ 48 ≤ bt t p ∧ bt t p ≤ 57) ∧ c < 9 ∧ ¬ (c = 1 ∧ n = 0)
    · rw [if_pos h]
      have := ih (p + 1) (10 * n + (bt t p - 48)) (c + 1) (by omega)
      omega
    · rw [if_neg h]; simp only; omega
theorem num_spec {t : ByteArray} {p : Int} (h : p ≤ t.size) : p ≤ (num t p).2.1 ∧ (num t p).2.1 ≤ t.size ∧ (num t p).2.2 = (num t p).2.1 - p := by
  have := numA_spec t 10 p 0 0 h
  unfold num; omega
theorem mst_le (t S : ByteArray) (d : Nat) : ∀ i p : Int, p ≤ t.size → p ≤ (mst t S d i p).1 ∧ (mst t S d i p).1 ≤ t.size ∧ (mst t S d i p).1 ≤ p + d ∧ ((mst t S d i p).2 = true ↔ (mst t S d i p).1 = p + d) := by
  induction d with
  | zero => intro i p h; simp only [mst]; simp; omega
  | succ d ih =>
    intro i p h
    simp only [mst]
    by_cases c : p < t.size ∧ bt t p = bt S i
    · rw [if_pos c]
      obtain ⟨h1, h2, h3, h4⟩ := ih (i + 1) (p + 1) (by omega)
      refine ⟨by omega, h2, by omega, ?_⟩
      rw [h4]; omega
    · rw [if_neg c]; simp only; refine ⟨by omega, by omega, by omega, ?_⟩
      simp; omega
theorem mtc_le (t F : ByteArray) (d : Nat) : ∀ (i p : Int) (ns : List Int), p ≤ t.size → p ≤ (mtc t F d i p ns).2.1 ∧ (mtc t F d i p ns).2.1 ≤ t.size := by
  induction d with
  | zero => intro i p ns h; simp only [mtc]; omega
  | succ d ih =>
    intro i p ns h
    simp only [mtc]
    have hn := num_spec h
    by_cases c : bt F i = 35
    · rw [if_pos c]
      by_cases c2 : (num t p).2.2 = 0
      · rw [if_pos c2]; simp only; omega
      · rw [if_neg c2]; have := ih (i + 1) (num t p).2.1 (ns ++ [(num t p).1]) hn.2.1; omega
    · rw [if_neg c]
      by_cases c2 : p < t.size ∧ bt t p = bt F i
      · rw [if_pos c2]; have := ih (i + 1) (p + 1) ns (by omega); omega
      · rw [if_neg c2]; simp only; omega
/-- A form that begins with a word: the word first. -/
theorem mtc_word {t F S : ByteArray} (e : Nat) (m : Nat) : ∀ (i j p : Int) (ns : List Int), (∀ q : Nat, q < m → bt F (i + q) = bt S (j + q) ∧ bt S (j + q) ≠ 35) →
    mtc t F (m + e) i p ns = if (mst t S m j p).2 = true then mtc t F e (i + m) (mst t S m j p).1 ns else (ns, (mst t S m j p).1, false) := by
  induction m with
  | zero => intro i j p ns h; simp [mst]
  | succ m ih =>
    intro i j p ns h
    have h0 := h 0 (by omega)
    simp only [Int.natCast_zero, Int.add_zero] at h0
    rw [show m + 1 + e = (m + e) + 1 by omega]
    simp only [mtc]
    rw [h0.1, if_neg h0.2]
    by_cases c : p < t.size ∧ bt t p = bt S j
    · have em : mst t S (m + 1) j p = mst t S m (j + 1) (p + 1) := by simp only [mst]; rw [if_pos c]
      rw [if_pos c, em]
      rw [ih (i + 1) (j + 1) (p + 1) ns (fun q hq => by have := h (q + 1) (by omega); rw [show i + 1 + (q : Int) = i + ((q + 1 : Nat) : Int) by omega, show j + 1 + (q : Int) = j + ((q + 1 : Nat) : Int) by omega]; exact this)]
      rw [show i + 1 + (m : Int) = i + ((m + 1 : Nat) : Int) by omega]
    · have em : mst t S (m + 1) j p = (p, false) := by simp only [mst]; rw [if_neg c]
      rw [if_neg c, em]; simp
/-- A form that begins with a number. -/
theorem mtc_num {t F : ByteArray} {e : Nat} {i p : Int} {ns : List Int} (h : bt F i = 35) :
    mtc t F (e + 1) i p ns = if (num t p).2.2 = 0 then (ns, (num t p).2.1, false) else mtc t F e (i + 1) (num t p).2.1 (ns ++ [(num t p).1]) := by
  simp only [mtc]; rw [if_pos h]
end
end Go.Proofs.YtanjbdgmnecacaaDoor.M
