/- The curve: what the program's Curve lists. Condition: the profile is right and the step is one. -/
import Derived.Test.YtgakkndbcilclaaPAx0
import Derived.Test.YtgakkndbcilclaaPAx40
import Derived.Test.YtgakkndbcilclaaPrM
set_option linter.unusedVariables false
set_option linter.unusedSimpArgs false
namespace Go.Proofs.Ytgakkndbcilclaa.Pure
open Go.RowKit Go.Proofs.YtgakkndbcilclaaW.PrintWords Go.Proofs.YtgakkndbcilclaaW.PrintLast Go.Proofs.Ytgakkndbcilclaa.PA Go.Proofs.Ytgakkndbcilclaa.M
section
variable {P : PR}
def PR.point (P : PR) (step : Int) (i : Nat) : S98 := ⟨(i : Int) * step, P.most ((i : Int) * step)⟩
def PR.curve (P : PR) (step : Int) : List S98 := (List.range (P.en / step + 1).toNat).map (P.point step)
theorem curve_length (hg : Good P) {step : Int} (hs : 1 ≤ step) : ((P.curve step).length : Int) = P.en / step + 1 := by
  have := Int.ediv_nonneg hg.en0 (show 0 ≤ step by omega)
  simp [PR.curve]; omega
theorem step_le (hg : Good P) {step : Int} (hs : 1 ≤ step) {i : Nat} (hi : (i : Int) ≤ P.en / step) : 0 ≤ (i : Int) * step ∧ (i : Int) * step ≤ P.en := by
  have h1 := Int.mul_le_mul_of_nonneg_right hi (show 0 ≤ step by omega)
  have h2 := Int.ediv_mul_le P.en (show step ≠ 0 by omega)
  exact ⟨Int.mul_nonneg (by omega) (by omega), by omega⟩
theorem ev_Curve_l0 (hg : Good P) {step : Int} (hs : 1 ≤ step) (hs2 : step ≤ 200000000) (hq : P.en / step ≤ 200) (d : Nat) : ∀ i : Nat, ((i + d : Nat) : Int) = P.en / step + 1 →
    Ev (fun k => impl_Curve.l0 k step ((List.range i).map (P.point step)) ((i : Int) * step) P.ps P.zs P.tr P.en P.de) (P.curve step) := by
  have ht := hg.tot
  have he := hg.en1
  have hnn := Int.ediv_nonneg hg.en0 (show 0 ≤ step by omega)
  induction d with
  | zero =>
    intro i h
    have h1 : (i : Int) * step > P.en := by
      have h2 := Int.lt_ediv_add_one_mul_self P.en (show 0 < step by omega)
      rw [show (i : Int) = P.en / step + 1 by omega]; exact h2
    refine Ev.step (fun k => by rw [impl_Curve.l0]) (neg_ (by omega) (now_ ?_))
    unfold PR.curve
    rw [show (P.en / step + 1).toNat = i by omega]
  | succ d ih =>
    intro i h
    obtain ⟨h0, h1⟩ := step_le hg hs (i := i) (by omega)
    have hl : ((List.range i).map (P.point step)).length < 8796093022208 := by rw [List.length_map, List.length_range]; omega
    refine Ev.step (fun k => by rw [impl_Curve.l0]) (pos_ h1 (Ev.bind (ev_mostNow hg h0 (by omega)) (pos_ hl ?_)))
    rw [w64 (a := (i : Int) * step + step) (by omega) (by omega)]
    refine cast_ rfl ?_
    have e1 : (i : Int) * step + step = ((i + 1 : Nat) : Int) * step := by rw [show ((i + 1 : Nat) : Int) = (i : Int) + 1 from rfl, Int.add_mul, Int.one_mul]
    have e2 : (List.range i).map (P.point step) ++ [⟨(i : Int) * step, P.most ((i : Int) * step)⟩] = (List.range (i + 1)).map (P.point step) := by
      rw [List.range_succ, List.map_append]; rfl
    rw [e1, e2]
    exact ih (i + 1) (by omega)
theorem ev_Curve (hg : Good P) {step : Int} (hs : 1 ≤ step) (hs2 : step ≤ 200000000) (hq : P.en / step ≤ 200) : Ev (fun k => impl_Curve.f k P.ps P.zs P.tr P.en P.de step) (P.curve step) := by
  have hnn := Int.ediv_nonneg hg.en0 (show 0 ≤ step by omega)
  simp only [impl_Curve.f, iPOk, Option.bind_some]
  refine pos_ ((pok_zero ..).mpr hg) (neg_ (by omega) (neg_ (by omega) ?_))
  rw [Int.tdiv_eq_ediv_of_nonneg hg.en0, w64 (a := P.en / step) (by omega) (by omega), decide_eq_false (show ¬ P.en / step > 200 by omega)]
  refine Ev.step (fun k => by rw [impl_Curve.j0]) (neg_ (by decide) ?_)
  have := ev_Curve_l0 hg hs hs2 hq (P.en / step + 1).toNat 0 (by omega)
  simpa using this
end
end Go.Proofs.Ytgakkndbcilclaa.Pure
