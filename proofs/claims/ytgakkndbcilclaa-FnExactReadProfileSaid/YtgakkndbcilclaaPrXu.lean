/- Lists filled from their beginning. -/
import Derived.Test.YtgakkndbcilclaaPrA
set_option linter.unusedVariables false
set_option linter.unusedSimpArgs false
namespace Go.Proofs.Ytgakkndbcilclaa.M
open Go.RowKit Go.Proofs.YtgakkndbcilclaaW.PrintWords
section
variable {α : Type}
/-- Filled up to a place. -/
def Upto (x L : List α) (i : Nat) : Prop := x.length = L.length ∧ ∀ j, j < i → x[j]? = L[j]?
theorem Upto.zero {x L : List α} (h : x.length = L.length) : Upto x L 0 := ⟨h, fun j hj => absurd hj (Nat.not_lt_zero j)⟩
theorem Upto.done {x L : List α} {i : Nat} (h : Upto x L i) (hi : i = L.length) : x = L := by
  refine List.ext_getElem? fun j => ?_
  by_cases c : j < i
  · exact h.2 j c
  · rw [List.getElem?_eq_none (by have := h.1; omega), List.getElem?_eq_none (by omega)]
theorem Upto.set {x L : List α} {i : Nat} {v : α} (h : Upto x L i) (hv : L[i]? = some v) : Upto (x.set i v) L (i + 1) := by
  refine ⟨by simpa using h.1, fun j hj => ?_⟩
  have hi := (List.getElem?_eq_some_iff.1 hv).1
  by_cases c : i = j
  · subst c; rw [hv, List.getElem?_set_self (by have := h.1; omega)]
  · rw [List.getElem?_set_ne c]; exact h.2 j (by omega)
end
end Go.Proofs.Ytgakkndbcilclaa.M
