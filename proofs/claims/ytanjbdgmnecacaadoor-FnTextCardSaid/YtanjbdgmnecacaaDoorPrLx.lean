/- Reading a whole text: both codes come to one result, by going on from line to line. Condition: the text is no longer than the program takes. -/
import Derived.Test.YtanjbdgmnecacaaDoorPTx0
import Derived.Test.YtanjbdgmnecacaaDoorPTx20
import Derived.Test.YtanjbdgmnecacaaDoorPTx26
import Derived.Test.YtanjbdgmnecacaaDoorPrLr
set_option linter.unusedVariables false
set_option linter.unusedSimpArgs false
namespace Go.Proofs.YtanjbdgmnecacaaDoor.Pure
open Go.RowKit Go.Proofs.YtanjbdgmnecacaaDoorW.PrintWords Go.Proofs.YtanjbdgmnecacaaDoorW.PrintLast Go.Proofs.YtanjbdgmnecacaaDoor.PT Go.Proofs.YtanjbdgmnecacaaDoor.M
section
variable {t : ByteArray}
theorem both (ht : t.size ≤ 3000) (m : Nat) : ∀ (p : Int) (ps : List S49) (zs : List S56), 0 ≤ p → p ≤ t.size → (t.size : Int) - p < m → (ps.length : Int) ≤ p → (zs.length : Int) ≤ p → Both t p ps zs := by
  induction m with
  | zero => intro p ps zs h0 h1 h2; omega
  | succ m ih =>
    intro p ps zs h0 h1 h2 h3 h4
    have hps : ps.length ≤ 3000 := by omega
    have hzs : zs.length ≤ 3000 := by omega
    have iT : ∀ q u v, p + 6 ≤ q → q ≤ t.size → Both t q (ps ++ [⟨u, v⟩]) zs := fun q u v q0 q1 => ih q _ _ (by omega) q1 (by omega) (by simp; omega) (by omega)
    have iL : ∀ q u v w, p + 6 ≤ q → q ≤ t.size → Both t q ps (zs ++ [⟨u, v, w⟩]) := fun q u v w q0 q1 => ih q _ _ (by omega) q1 (by omega) (by omega) (by simp; omega)
    by_cases hz : zs.length > 0
    · cases hL : (mst t sL 6 0 p).2 with
      | true => exact h_L ht h0 h1 hzs (.inl hz) hL iL
      | false =>
        cases hR : (mst t sR 6 0 p).2 with
        | true => exact h_R ht h0 h1 hzs hps (.inl hz) hR
        | false => exact n2 ht h0 h1 hz hL hR
    · cases hT : (mst t sT 6 0 p).2 with
      | true => exact h_T ht h0 h1 hps hz hT iT
      | false =>
        by_cases hp : ps.length > 0
        · cases hL : (mst t sL 6 0 p).2 with
          | true => exact h_L ht h0 h1 hzs (.inr hp) hL iL
          | false =>
            cases hR : (mst t sR 6 0 p).2 with
            | true => exact h_R ht h0 h1 hzs hps (.inr hp) hR
            | false => exact n3 ht h0 h1 hz hp hT hL hR
        · exact n1 ht h0 h1 hz hp hT
end
section
theorem reads (t : ByteArray) : ∃ r : Int × Int × (List S49) × (List S56) × Int × Int × Int, Ev (fun k => spec_ReadProfile.f k t) r ∧ Ev (fun k => impl_ReadProfile.f k t) r ∧ r.2.2.1.length ≤ 3000 ∧ r.2.2.2.1.length ≤ 3000 := by
  by_cases c : (t.size : Int) > 3000
  · refine ⟨(1, 3000, [], [], 0, 0, 0), ?_, ?_, by simp, by simp⟩
    · simp only [spec_ReadProfile.f]; exact pos_ c (now_ rfl)
    · simp only [impl_ReadProfile.f]; exact pos_ c (now_ rfl)
  · obtain ⟨r, h1, h2, h3, h4⟩ := both (t := t) (by omega) (t.size + 1) 0 [] [] (by omega) (by omega) (by omega) (by simp) (by simp)
    refine ⟨r, ?_, ?_, h3, h4⟩
    · simp only [spec_ReadProfile.f]; exact neg_ c h1
    · simp only [impl_ReadProfile.f]; exact neg_ c h2
end
end Go.Proofs.YtanjbdgmnecacaaDoor.Pure
