/- A byte of a list of bytes. Condition: the list holds bytes. -/
import Derived.Test.YtanjbdgmnecacaaDoorPTx22
import Derived.Test.YtanjbdgmnecacaaDoorPrB
set_option linter.unusedVariables false
set_option linter.unusedSimpArgs false
namespace Go.Proofs.YtanjbdgmnecacaaDoor.Pure
open Go.RowKit Go.Proofs.YtanjbdgmnecacaaDoorW.PrintWords Go.Proofs.YtanjbdgmnecacaaDoorW.PrintLast Go.Proofs.YtanjbdgmnecacaaDoor.PT Go.Proofs.YtanjbdgmnecacaaDoor.M
theorem byte_in {l : List Int} (hw : ∀ x ∈ l, (Lit.int .u8 x).wf = true) {i : Int} (h0 : 0 ≤ i) (h1 : i < l.length) : 0 ≤ rd l i ∧ rd l i ≤ 255 := by
  have hq := hw _ (getD_mem' l i 0 h0 h1)
  have hq2 : (decide ((0 : Int) ≤ rd l i) && decide (rd l i ≤ (255 : Int))) = true := hq
  rw [Bool.and_eq_true, decide_eq_true_eq, decide_eq_true_eq] at hq2
  exact hq2
theorem wByte_some (l : List Int) (hw : ∀ x ∈ l, (Lit.int .u8 x).wf = true) (i : Int) (hi : 0 ≤ i) : ∃ r, laws_wByte.f l i = some r ∧ 0 ≤ r ∧ r ≤ 255 := by
  unfold laws_wByte.f
  by_cases c : (l.length : Int) = 0
  · rw [if_pos c]; exact ⟨0, rfl, by omega, by omega⟩
  · rw [if_neg c, Int.tmod_eq_emod_of_nonneg hi]
    have m0 := Int.emod_nonneg i c
    have m1 := Int.emod_lt_of_pos i (show 0 < (l.length : Int) by omega)
    rw [if_pos m0, if_pos m1]
    have hb := byte_in hw m0 m1
    exact ⟨_, rfl, by rw [w64 (by omega) (by omega)]; exact hb.1, by rw [w64 (by omega) (by omega)]; exact hb.2⟩
end Go.Proofs.YtanjbdgmnecacaaDoor.Pure
