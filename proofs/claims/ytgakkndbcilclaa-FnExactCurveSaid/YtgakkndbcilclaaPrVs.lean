/- The curve at every profile and step, of the program and of the reference. Condition: the step is an int. -/
import Derived.Test.YtgakkndbcilclaaPAx0
import Derived.Test.YtgakkndbcilclaaPAx7
import Derived.Test.YtgakkndbcilclaaPAx39
import Derived.Test.YtgakkndbcilclaaPAx40
import Derived.Test.YtgakkndbcilclaaPrV
set_option linter.unusedVariables false
set_option linter.unusedSimpArgs false
namespace Go.Proofs.Ytgakkndbcilclaa.Pure
open Go.RowKit Go.Proofs.YtgakkndbcilclaaW.PrintWords Go.Proofs.YtgakkndbcilclaaW.PrintLast Go.Proofs.Ytgakkndbcilclaa.PA Go.Proofs.Ytgakkndbcilclaa.M
section
variable {P : PR}
theorem okB_zero : P.okB 0 = decide (pokV P.ps P.zs P.tr P.en P.de = 0) := by
  unfold PR.okB
  by_cases c : pokV P.ps P.zs P.tr P.en P.de = 0
  · have hg : Good P := (pok_zero ..).mp c
    have := hg.tot
    rw [decide_eq_true c, decide_eq_true (show 0 ≤ tot P.ps by omega)]; rfl
  · rw [decide_eq_false c]; rfl
def PR.curveV (P : PR) (step : Int) : List S98 := if P.okB 0 = true ∧ 1 ≤ step ∧ P.en / step ≤ 200 then P.curve step else []
theorem step_hi (hg : Good P) {step : Int} (hs : 1 ≤ step) (hs2 : step ≤ 9223372036854775807) {i : Nat} (hi : (i : Int) ≤ P.en / step) : 0 ≤ (i : Int) * step + step ∧ (i : Int) * step + step ≤ 9223372036854775807 := by
  have ht := hg.tot
  have he := hg.en1
  obtain ⟨h0, h1⟩ := step_le hg hs hi
  refine ⟨by omega, ?_⟩
  match i, h0, h1 with
  | 0, h0, h1 => simp; omega
  | i + 1, h0, h1 =>
    have e : ((i + 1 : Nat) : Int) * step = (i : Int) * step + step := by rw [show ((i + 1 : Nat) : Int) = (i : Int) + 1 from rfl, Int.add_mul, Int.one_mul]
    have := Int.mul_nonneg (show 0 ≤ (i : Int) by omega) (show 0 ≤ step by omega)
    omega
theorem ev_Curve_l0' (hg : Good P) {step : Int} (hs : 1 ≤ step) (hs2 : step ≤ 9223372036854775807) (hq : P.en / step ≤ 200) (d : Nat) : ∀ i : Nat, ((i + d : Nat) : Int) = P.en / step + 1 →
    Ev (fun k => impl_Curve.l0 k step ((List.range i).map (P.point step)) ((i : Int) * step) P.ps P.zs P.tr P.en P.de) (P.curve step) := by
  have ht := hg.tot
  have he := hg.en1
  have hnn := Int.ediv_nonneg hg.en0 (show 0 ≤ step by omega)
  induction d with
  | zero =>
    intro i h
    have h1 : (i : Int) * step > P.en := by
      have h2 := Int.lt_ediv_add_one_mul_self P.en (show 0 < step by omega)
      rw [show (i : Int) = P.en / step + 1 by omega]; exact h2
    refine Ev.step (fun k => by rw [impl_Curve.l0]) (neg_ (by omega) (now_ ?_))
    unfold PR.curve
    rw [show (P.en / step + 1).toNat = i by omega]
  | succ d ih =>
    intro i h
    obtain ⟨h0, h1⟩ := step_le hg hs (i := i) (by omega)
    have h2 := step_hi hg hs hs2 (i := i) (by omega)
    have hl : ((List.range i).map (P.point step)).length < 8796093022208 := by rw [List.length_map, List.length_range]; omega
    refine Ev.step (fun k => by rw [impl_Curve.l0]) (pos_ h1 (Ev.bind (ev_mostNow hg h0 (by omega)) (pos_ hl ?_)))
    rw [w64 (a := (i : Int) * step + step) (by omega) (by omega)]
    refine cast_ rfl ?_
    have e1 : (i : Int) * step + step = ((i + 1 : Nat) : Int) * step := by rw [show ((i + 1 : Nat) : Int) = (i : Int) + 1 from rfl, Int.add_mul, Int.one_mul]
    have e2 : (List.range i).map (P.point step) ++ [⟨(i : Int) * step, P.most ((i : Int) * step)⟩] = (List.range (i + 1)).map (P.point step) := by
      rw [List.range_succ, List.map_append]; rfl
    rw [e1, e2]
    exact ih (i + 1) (by omega)
theorem ev_sCurve_l0 (hg : Good P) {step : Int} (hs : 1 ≤ step) (hs2 : step ≤ 9223372036854775807) (hq : P.en / step ≤ 200) (d : Nat) : ∀ i : Nat, ((i + d : Nat) : Int) = P.en / step + 1 →
    Ev (fun k => spec_Curve.l0 k step ((List.range i).map (P.point step)) ((i : Int) * step) P.ps P.zs P.tr P.en P.de) (P.curve step) := by
  have ht := hg.tot
  have he := hg.en1
  have hnn := Int.ediv_nonneg hg.en0 (show 0 ≤ step by omega)
  induction d with
  | zero =>
    intro i h
    have h1 : (i : Int) * step > P.en := by
      have h2 := Int.lt_ediv_add_one_mul_self P.en (show 0 < step by omega)
      rw [show (i : Int) = P.en / step + 1 by omega]; exact h2
    refine Ev.step (fun k => by rw [spec_Curve.l0]) (neg_ (by omega) (now_ ?_))
    unfold PR.curve
    rw [show (P.en / step + 1).toNat = i by omega]
  | succ d ih =>
    intro i h
    obtain ⟨h0, h1⟩ := step_le hg hs (i := i) (by omega)
    have h2 := step_hi hg hs hs2 (i := i) (by omega)
    have hl : ((List.range i).map (P.point step)).length < 8796093022208 := by rw [List.length_map, List.length_range]; omega
    refine Ev.step (fun k => by rw [spec_Curve.l0]) (pos_ h1 (Ev.bind (ev_l3most hg h0 (by omega)) (pos_ hl ?_)))
    rw [w64 (a := (i : Int) * step + step) (by omega) (by omega)]
    refine cast_ rfl ?_
    have e1 : (i : Int) * step + step = ((i + 1 : Nat) : Int) * step := by rw [show ((i + 1 : Nat) : Int) = (i : Int) + 1 from rfl, Int.add_mul, Int.one_mul]
    have e2 : (List.range i).map (P.point step) ++ [⟨(i : Int) * step, P.most ((i : Int) * step)⟩] = (List.range (i + 1)).map (P.point step) := by
      rw [List.range_succ, List.map_append]; rfl
    rw [e1, e2]
    exact ih (i + 1) (by omega)
theorem curveV_length (step : Int) : (P.curveV step).length ≤ 201 := by
  unfold PR.curveV
  split
  · simp [PR.curve]; omega
  · simp
theorem ev_CurveV (step : Int) (hs2 : step ≤ 9223372036854775807) : Ev (fun k => impl_Curve.f k P.ps P.zs P.tr P.en P.de step) (P.curveV step) := by
  simp only [impl_Curve.f, iPOk, Option.bind_some]
  unfold PR.curveV
  rw [okB_zero]
  by_cases c : pokV P.ps P.zs P.tr P.en P.de = 0
  · have hg : Good P := (pok_zero ..).mp c
    refine pos_ c ?_
    by_cases c1 : step < 1
    · rw [if_neg (fun z => by omega)]
      refine pos_ c1 (Ev.step (fun k => by rw [impl_Curve.j0]) (pos_ rfl (now_ rfl)))
    · have ht := hg.tot
      have he := hg.en1
      have hs : 1 ≤ step := by omega
      have hnn := Int.ediv_nonneg hg.en0 (show 0 ≤ step by omega)
      have hle : P.en / step ≤ P.en := Int.ediv_le_self _ hg.en0
      refine neg_ c1 (neg_ (by omega) ?_)
      rw [Int.tdiv_eq_ediv_of_nonneg hg.en0, w64 (a := P.en / step) (by omega) (by omega)]
      by_cases c2 : P.en / step > 200
      · rw [if_neg (fun z => by omega), decide_eq_true c2]
        exact Ev.step (fun k => by rw [impl_Curve.j0]) (pos_ rfl (now_ rfl))
      · rw [if_pos ⟨decide_eq_true c, hs, by omega⟩, decide_eq_false c2]
        refine Ev.step (fun k => by rw [impl_Curve.j0]) (neg_ (by decide) ?_)
        have := ev_Curve_l0' hg hs hs2 (by omega) (P.en / step + 1).toNat 0 (by omega)
        simpa using this
  · rw [if_neg (fun z => c (of_decide_eq_true z.1))]
    refine neg_ c (Ev.step (fun k => by rw [impl_Curve.j0]) (pos_ rfl (now_ rfl)))
theorem ev_sCurveV (step : Int) (hs2 : step ≤ 9223372036854775807) : Ev (fun k => spec_Curve.f k P.ps P.zs P.tr P.en P.de step) (P.curveV step) := by
  simp only [spec_Curve.f]
  unfold PR.curveV
  refine Ev.bind (ev_l3good (P := P)) ?_
  rw [show (decide ((0 : Int) ≤ 0) && decide ((0 : Int) ≤ 10000)) = true by decide, Bool.and_true, okB_zero]
  by_cases c : pokV P.ps P.zs P.tr P.en P.de = 0
  · have hg : Good P := (pok_zero ..).mp c
    refine pos_ (decide_eq_true c) ?_
    by_cases c1 : step < 1
    · rw [if_neg (fun z => by omega)]
      refine pos_ c1 (Ev.step (fun k => by rw [spec_Curve.j0]) (pos_ rfl (now_ rfl)))
    · have ht := hg.tot
      have he := hg.en1
      have hs : 1 ≤ step := by omega
      have hnn := Int.ediv_nonneg hg.en0 (show 0 ≤ step by omega)
      have hle : P.en / step ≤ P.en := Int.ediv_le_self _ hg.en0
      refine neg_ c1 (neg_ (by omega) ?_)
      rw [Int.tdiv_eq_ediv_of_nonneg hg.en0, w64 (a := P.en / step) (by omega) (by omega)]
      by_cases c2 : P.en / step > 200
      · rw [if_neg (fun z => by omega), decide_eq_true c2]
        exact Ev.step (fun k => by rw [spec_Curve.j0]) (pos_ rfl (now_ rfl))
      · rw [if_pos ⟨decide_eq_true c, hs, by omega⟩, decide_eq_false c2]
        refine Ev.step (fun k => by rw [spec_Curve.j0]) (neg_ (by decide) ?_)
        have := ev_sCurve_l0 hg hs hs2 (by omega) (P.en / step + 1).toNat 0 (by omega)
        simpa using this
  · rw [if_neg (fun z => c (of_decide_eq_true z.1))]
    refine neg_ (by rw [decide_eq_false c]; decide) (Ev.step (fun k => by rw [spec_Curve.j0]) (pos_ rfl (now_ rfl)))
end
end Go.Proofs.Ytgakkndbcilclaa.Pure
