/- A word, of the reference. Condition: the text is no longer than the program takes. -/
import Derived.Test.YtanjbdgmnecacaaDoorPTx23
import Derived.Test.YtanjbdgmnecacaaDoorPrLi
set_option linter.unusedVariables false
set_option linter.unusedSimpArgs false
namespace Go.Proofs.YtanjbdgmnecacaaDoor.Pure
open Go.RowKit Go.Proofs.YtanjbdgmnecacaaDoorW.PrintWords Go.Proofs.YtanjbdgmnecacaaDoorW.PrintLast Go.Proofs.YtanjbdgmnecacaaDoor.PT Go.Proofs.YtanjbdgmnecacaaDoor.M
section
variable {t S : ByteArray} {p : Int} {lst : List ByteArray} {R : ByteArray × ByteArray × Int × Int}
theorem ev_w1 {far idx n : Int} (ht : t.size ≤ 3000) (hS : S.size ≤ 100) (h0 : 0 ≤ p) (d : Nat) : ∀ i : Nat, i + d = S.size → p + i ≤ t.size →
    Ev (fun k => spec_l5R_word.j2 k far S ((mst t S d i (p + i)).1 - p) lst n idx t p (-1)) R → Ev (fun k => spec_l5R_word.l1 k far S i lst n idx t p (-1)) R := by
  induction d with
  | zero =>
    intro i hi h1 h
    simp only [mst] at h
    rw [show p + (i : Int) - p = i by omega] at h
    exact Ev.step (fun k => by rw [spec_l5R_word.l1]) (neg_ (by omega) h)
  | succ d ih =>
    intro i hi h1 h
    refine Ev.step (fun k => by rw [spec_l5R_word.l1]) (pos_ (by omega) ?_)
    rw [w64 (a := p + (i : Int)) (by omega) (by omega)]
    by_cases c : p + (i : Int) < t.size
    · refine pos_ c (pos_ (by omega) (pos_ (by omega) ?_))
      by_cases c2 : bt t (p + i) = bt S i
      · have em : mst t S (d + 1) i (p + i) = mst t S d (i + 1) (p + i + 1) := by simp only [mst]; rw [if_pos ⟨c, c2⟩]
        rw [em] at h
        rw [w64 (a := (i : Int) + 1) (by omega) (by omega)]
        refine pos_ c2 (ih (i + 1) (by omega) (by omega) ?_)
        rw [show p + ((i + 1 : Nat) : Int) = p + i + 1 by omega, show ((i + 1 : Nat) : Int) = (i : Int) + 1 by omega]
        exact h
      · have em : mst t S (d + 1) i (p + i) = (p + i, false) := by simp only [mst]; rw [if_neg (fun z => c2 z.2)]
        rw [em, show (p + (i : Int), false).1 - p = i by simp only; omega] at h
        exact neg_ c2 h
    · have em : mst t S (d + 1) i (p + i) = (p + i, false) := by simp only [mst]; rw [if_neg (fun z => c z.1)]
      rw [em, show (p + (i : Int), false).1 - p = i by simp only; omega] at h
      exact neg_ c h
theorem s_hit {far : Int} {j : Nat} (ht : t.size ≤ 3000) (hS : S.size ≤ 100) (h0 : 0 ≤ p) (h1 : p ≤ t.size) (hj : j < lst.length) (hF : rdOf ByteArray.empty lst j = S) (h : (mst t S S.size 0 p).2 = true) :
    Ev (fun k => spec_l5R_word.l0 k far lst lst.length j t p (-1)) (S, t, p + S.size, -1) := by
  have hl := mst_le t S S.size 0 p h1
  refine Ev.step (fun k => by rw [spec_l5R_word.l0]) (pos_ (by omega) (pos_ (by omega) (pos_ (by omega) ?_)))
  rw [hF]
  refine ev_w1 ht hS h0 S.size 0 (by omega) (by omega) ?_
  rw [Int.natCast_zero, Int.add_zero, hl.2.2.2.mp h, show p + (S.size : Int) - p = S.size by omega]
  refine Ev.step (fun k => by rw [spec_l5R_word.j2]) (pos_ rfl ?_)
  rw [w64 (a := p + (S.size : Int)) (by omega) (by omega)]
  exact now_ rfl
theorem s_miss {far : Int} {j : Nat} (ht : t.size ≤ 3000) (hS : S.size ≤ 100) (h0 : 0 ≤ p) (h1 : p ≤ t.size) (hj : j < lst.length) (hl2 : lst.length ≤ 10) (hF : rdOf ByteArray.empty lst j = S) (h : (mst t S S.size 0 p).2 = false)
    (hR : Ev (fun k => spec_l5R_word.l0 k (if (mst t S S.size 0 p).1 - p > far then (mst t S S.size 0 p).1 - p else far) lst lst.length ((j + 1 : Nat) : Int) t p (-1)) R) : Ev (fun k => spec_l5R_word.l0 k far lst lst.length j t p (-1)) R := by
  have hl := mst_le t S S.size 0 p h1
  refine Ev.step (fun k => by rw [spec_l5R_word.l0]) (pos_ (by omega) (pos_ (by omega) (pos_ (by omega) ?_)))
  rw [hF]
  refine ev_w1 ht hS h0 S.size 0 (by omega) (by omega) ?_
  rw [Int.natCast_zero, Int.add_zero]
  have hne : ¬ (mst t S S.size 0 p).1 - p = S.size := fun z => by
    have := hl.2.2.2.mpr (by omega)
    rw [h] at this; cases this
  refine Ev.step (fun k => by rw [spec_l5R_word.j2]) (neg_ hne ?_)
  rw [w64 (a := (j : Int) + 1) (by omega) (by omega)]
  by_cases c : (mst t S S.size 0 p).1 - p > far
  · rw [if_pos c] at hR; exact pos_ c hR
  · rw [if_neg c] at hR; exact neg_ c hR
theorem s_end {far : Int} (h0 : 0 ≤ p) (h1 : p ≤ 3000) (h2 : 0 ≤ far) (h3 : far ≤ 3000) : Ev (fun k => spec_l5R_word.l0 k far lst lst.length lst.length t p (-1)) (⟨#[]⟩, t, p, p + far) := by
  refine Ev.step (fun k => by rw [spec_l5R_word.l0]) (neg_ (by omega) ?_)
  rw [w64 (a := p + far) (by omega) (by omega)]
  exact now_ rfl
end
end Go.Proofs.YtanjbdgmnecacaaDoor.Pure
