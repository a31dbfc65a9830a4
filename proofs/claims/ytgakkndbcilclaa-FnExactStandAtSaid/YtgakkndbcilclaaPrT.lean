/- Limit, brake and standing place, of the program and of the reference: the same plain functions at every profile and place. No condition. -/
import Derived.Test.YtgakkndbcilclaaPAx1
import Derived.Test.YtgakkndbcilclaaPAx2
import Derived.Test.YtgakkndbcilclaaPAx4
import Derived.Test.YtgakkndbcilclaaPAx8
import Derived.Test.YtgakkndbcilclaaPAx9
import Derived.Test.YtgakkndbcilclaaPAx10
import Derived.Test.YtgakkndbcilclaaPAx11
import Derived.Test.YtgakkndbcilclaaPAx12
import Derived.Test.YtgakkndbcilclaaPAx13
import Derived.Test.YtgakkndbcilclaaPrC
set_option linter.unusedVariables false
set_option linter.unusedSimpArgs false
namespace Go.Proofs.Ytgakkndbcilclaa.Pure
open Go.RowKit Go.Proofs.YtgakkndbcilclaaW.PrintWords Go.Proofs.YtgakkndbcilclaaW.PrintLast Go.Proofs.Ytgakkndbcilclaa.PA Go.Proofs.Ytgakkndbcilclaa.M
section
variable {P : PR}
def PR.limitAt (P : PR) (x : Int) : Int := if P.okB x = true then P.O x x else -1
def PR.rateAt (P : PR) (x : Int) : Int := if P.okB x = true then P.R x else -1
def standA (R : Int → Int) (n : Int) : Nat → Int → Int → Int
  | 0, x, _ => x
  | d + 1, x, v => if v > 0 then (if x + less v (R x) > n then -1 else standA R n d (x + less v (R x)) (less v (R x))) else x
def PR.standAt (P : PR) (x v : Int) : Int := if P.okB x = true ∧ 0 ≤ v ∧ v ≤ 10000 then standA P.R (tot P.ps) 10001 x v else -1
theorem ev_right (x : Int) : Ev (fun k => impl_right.f k P.ps P.zs P.tr P.en P.de x) (P.okB x) := by
  by_cases c : P.okB x = true
  · rw [c]; exact ev_right_t P (okB_iff.mp c)
  · have h := ev_right_f P (x := x) (fun z => c (okB_iff.mpr z))
    rw [Bool.not_eq_true] at c
    rw [c]; exact h
/-- The reference's own question, in three steps. -/
theorem ev_sok {α : Type} {x : Int} {F : Nat → Int → Option α} {G H : Nat → Option α} {r : α} (hF : P.okB x = true → Ev (fun k => F k (tot P.ps)) r) (hG : P.okB x = false → Ev G r) (hH : P.okB x = false → Ev H r) :
    Ev (fun k => (spec_ProfileOk.f k P.ps P.zs P.tr P.en P.de).bind fun t => if t = 0 then ((spec_l2total.f k P.ps P.zs P.tr P.en P.de).bind fun n => ((spec_l1in.f x 0 n).bind fun b => if b = true then F k n else G k)) else H k) r := by
  refine Ev.bind (ev_sPOk P.ps P.zs P.tr P.en P.de) ?_
  by_cases c : pokV P.ps P.zs P.tr P.en P.de = 0
  · have hg : Good P := (pok_zero ..).mp c
    refine pos_ c (Ev.bind (ev_sTotal hg.gp P.zs P.tr P.en P.de) ?_)
    by_cases c1 : 0 ≤ x ∧ x ≤ tot P.ps
    · exact bindc (l1in_t c1) (pos_ rfl (hF (okB_iff.mpr ⟨hg, c1.1, c1.2⟩)))
    · refine bindc (l1in_f c1) (neg_ (by decide) (hG ?_))
      rw [Bool.eq_false_iff]; exact fun z => c1 ⟨(okB_iff.mp z).2.1, (okB_iff.mp z).2.2⟩
  · refine neg_ c (hH ?_)
    unfold PR.okB; rw [decide_eq_false c]; rfl
theorem ev_LimitAt (x : Int) : Ev (fun k => impl_LimitAt.f k P.ps P.zs P.tr P.en P.de x) (P.limitAt x) := by
  simp only [impl_LimitAt.f]
  unfold PR.limitAt
  refine Ev.bind (ev_right x) ?_
  by_cases c : P.okB x = true
  · rw [if_pos c]; exact pos_ c (Ev.bind (ev_touched (okB_iff.mp c).1 x x) (now_ rfl))
  · rw [if_neg c]; exact neg_ c (now_ rfl)
theorem ev_sLimitAt (x : Int) : Ev (fun k => spec_LimitAt.f k P.ps P.zs P.tr P.en P.de x) (P.limitAt x) := by
  simp only [spec_LimitAt.f]
  unfold PR.limitAt
  refine ev_sok (F := fun k _ => (spec_l2over.f k P.ps P.zs P.tr P.en P.de x x).bind fun t => some t) (fun c => ?_) (fun c => ?_) fun c => ?_
  · rw [if_pos c]; exact Ev.bind (ev_l2over (okB_iff.mp c).1 x x) (now_ rfl)
  · rw [c]; exact now_ rfl
  · rw [c]; exact now_ rfl
theorem ok_le' {x : Int} (h : P.ok x) : x ≤ 1000000000 := by
  have := ok_le h; omega
theorem ev_BrakeAt (x : Int) : Ev (fun k => impl_BrakeAt.f k P.ps P.zs P.tr P.en P.de x) (P.rateAt x) := by
  simp only [impl_BrakeAt.f]
  unfold PR.rateAt
  refine Ev.bind (ev_right x) ?_
  by_cases c : P.okB x = true
  · have ho := okB_iff.mp c
    rw [if_pos c]; exact pos_ c (Ev.bind (ev_brakeAt ho.1 ho.2.1 (ok_le' ho)) (now_ rfl))
  · rw [if_neg c]; exact neg_ c (now_ rfl)
theorem ev_sBrakeAt (x : Int) : Ev (fun k => spec_BrakeAt.f k P.ps P.zs P.tr P.en P.de x) (P.rateAt x) := by
  simp only [spec_BrakeAt.f]
  unfold PR.rateAt
  refine ev_sok (F := fun k _ => (spec_l2rate.f k P.ps P.zs P.tr P.en P.de x).bind fun t => some t) (fun c => ?_) (fun c => ?_) fun c => ?_
  · have ho := okB_iff.mp c
    rw [if_pos c]; exact Ev.bind (ev_l2rate ho.1 ho.2.1 (ok_le' ho)) (now_ rfl)
  · rw [c]; exact now_ rfl
  · rw [c]; exact now_ rfl
theorem ev_StandAt_l0 (hg : Good P) (d : Nat) : ∀ x v : Int, v < d → 0 ≤ x → x ≤ tot P.ps → v ≤ 10000 → Ev (fun k => impl_StandAt.l0 k x v (tot P.ps) P.ps P.zs P.tr P.en P.de) (standA P.R (tot P.ps) d x v) := by
  have ht := hg.tot
  induction d with
  | zero =>
    intro x v h0 h1 h2 h3
    refine Ev.step (fun k => by rw [impl_StandAt.l0]) (neg_ (by omega) (now_ ?_)); rfl
  | succ d ih =>
    intro x v h0 h1 h2 h3
    simp only [standA]
    by_cases c : v > 0
    · rw [if_pos c]
      have hr := hg.R x
      have l0 := less_nonneg v (P.R x)
      have l1 : less v (P.R x) ≤ v - 1 := by unfold less; split <;> omega
      refine Ev.step (fun k => by rw [impl_StandAt.l0]) (pos_ c (Ev.bind (ev_brakeAt hg h1 (by omega)) ?_))
      rw [mx_less (by omega) (by omega)]
      generalize less v (P.R x) = u at *
      rw [w64 (a := x + u) (by omega) (by omega)]
      by_cases c2 : x + u > tot P.ps
      · rw [if_pos c2]; exact pos_ c2 (now_ rfl)
      · rw [if_neg c2]; exact neg_ c2 (ih _ _ (by omega) (by omega) (by omega) (by omega))
    · rw [if_neg c]
      refine Ev.step (fun k => by rw [impl_StandAt.l0]) (neg_ c (now_ ?_)); rfl
theorem ev_sStandAt_l0 (hg : Good P) (d : Nat) : ∀ x v : Int, v < d → 0 ≤ x → x ≤ tot P.ps → v ≤ 10000 → Ev (fun k => spec_StandAt.l0 k x v (tot P.ps) P.ps P.zs P.tr P.en P.de) (standA P.R (tot P.ps) d x v) := by
  have ht := hg.tot
  induction d with
  | zero =>
    intro x v h0 h1 h2 h3
    refine Ev.step (fun k => by rw [spec_StandAt.l0]) (neg_ (by omega) (now_ ?_)); rfl
  | succ d ih =>
    intro x v h0 h1 h2 h3
    simp only [standA]
    by_cases c : v > 0
    · rw [if_pos c]
      have hr := hg.R x
      have l0 := less_nonneg v (P.R x)
      have l1 : less v (P.R x) ≤ v - 1 := by unfold less; split <;> omega
      have hl := l2less_eq (v := v) (b := P.R x) (by omega) (by omega)
      refine Ev.step (fun k => by rw [spec_StandAt.l0]) (pos_ c (Ev.bind (ev_l2rate hg h1 (by omega)) (bindc hl ?_)))
      generalize less v (P.R x) = u at *
      rw [w64 (a := x + u) (by omega) (by omega)]
      by_cases c2 : x + u > tot P.ps
      · rw [if_pos c2]; exact pos_ c2 (now_ rfl)
      · rw [if_neg c2]; exact neg_ c2 (ih _ _ (by omega) (by omega) (by omega) (by omega))
    · rw [if_neg c]
      refine Ev.step (fun k => by rw [spec_StandAt.l0]) (neg_ c (now_ ?_)); rfl
theorem ev_StandAt (x v : Int) : Ev (fun k => impl_StandAt.f k P.ps P.zs P.tr P.en P.de x v) (P.standAt x v) := by
  simp only [impl_StandAt.f]
  unfold PR.standAt
  refine Ev.bind (ev_right x) ?_
  by_cases c : P.okB x = true
  · have ho := okB_iff.mp c
    refine pos_ c ?_
    by_cases c2 : 0 ≤ v ∧ v ≤ 10000
    · rw [if_pos ⟨c, c2⟩]
      exact bindc (speed_t c2) (Ev.step (fun k => by rw [impl_StandAt.j0]) (neg_ (by decide) (Ev.bind (ev_iTotal P ho.1.gp) (ev_StandAt_l0 ho.1 10001 x v (by omega) ho.2.1 ho.2.2 c2.2))))
    · rw [if_neg (fun z => c2 z.2)]
      refine bindc (speed_f c2) (Ev.step (fun k => by rw [impl_StandAt.j0]) (pos_ (by decide) (now_ ?_))); rfl
  · rw [if_neg (fun z => c z.1)]
    refine neg_ c (Ev.step (fun k => by rw [impl_StandAt.j0]) (pos_ rfl (now_ ?_))); rfl
theorem l1speeds_t {v : Int} (h : 0 ≤ v ∧ v ≤ 10000) : spec_l1speeds.f v 0 = some true := by
  simp only [spec_l1speeds.f, l1in_t h, Option.bind_some, l1in_t (show (0 : Int) ≤ 0 ∧ (0 : Int) ≤ 10000 by omega), if_true]
theorem l1speeds_f {v : Int} (h : ¬ (0 ≤ v ∧ v ≤ 10000)) : spec_l1speeds.f v 0 = some false := by
  simp only [spec_l1speeds.f, l1in_f h, Option.bind_some]
  rfl
theorem ev_sStandAt (x v : Int) : Ev (fun k => spec_StandAt.f k P.ps P.zs P.tr P.en P.de x v) (P.standAt x v) := by
  simp only [spec_StandAt.f]
  unfold PR.standAt
  refine ev_sok (F := fun k _ => (spec_l1speeds.f v 0).bind fun t => spec_StandAt.j0 k x v (!t) P.ps P.zs P.tr P.en P.de) (fun c => ?_) (fun c => ?_) fun c => ?_
  · have ho := okB_iff.mp c
    by_cases c2 : 0 ≤ v ∧ v ≤ 10000
    · rw [if_pos ⟨c, c2⟩]
      exact bindc (l1speeds_t c2) (Ev.step (fun k => by rw [spec_StandAt.j0]) (neg_ (by decide) (Ev.bind (ev_sTotal ho.1.gp P.zs P.tr P.en P.de) (ev_sStandAt_l0 ho.1 10001 x v (by omega) ho.2.1 ho.2.2 c2.2))))
    · rw [if_neg (fun z => c2 z.2)]
      refine bindc (l1speeds_f c2) (Ev.step (fun k => by rw [spec_StandAt.j0]) (pos_ (by decide) (now_ ?_))); rfl
  · rw [if_neg (fun z => by rw [c] at z; exact absurd z.1 (by decide))]
    refine Ev.step (fun k => by rw [spec_StandAt.j0]) (pos_ rfl (now_ ?_)); rfl
  · rw [if_neg (fun z => by rw [c] at z; exact absurd z.1 (by decide))]
    refine Ev.step (fun k => by rw [spec_StandAt.j0]) (pos_ rfl (now_ ?_)); rfl
end
end Go.Proofs.Ytgakkndbcilclaa.Pure
