/- Limit, brake and standing place, of the program and of the reference: the same plain functions at every profile and place. No condition. -/
import Derived.Test.YtanjbdgmnecacaaPRx1
import Derived.Test.YtanjbdgmnecacaaPRx2
import Derived.Test.YtanjbdgmnecacaaPRx3
import Derived.Test.YtanjbdgmnecacaaPRx5
import Derived.Test.YtanjbdgmnecacaaPRx13
import Derived.Test.YtanjbdgmnecacaaPRx26
import Derived.Test.YtanjbdgmnecacaaPrC
set_option linter.unusedVariables false
set_option linter.unusedSimpArgs false
namespace Go.Proofs.Ytanjbdgmnecacaa.Pure
open Go.RowKit Go.Proofs.YtanjbdgmnecacaaW.PrintWords Go.Proofs.YtanjbdgmnecacaaW.PrintLast Go.Proofs.Ytanjbdgmnecacaa.PR Go.Proofs.Ytanjbdgmnecacaa.M
section
variable {P : PR}
def PR.limitAt (P : PR) (x : Int) : Int := if P.okB x = true then P.O x x else -1
def PR.rateAt (P : PR) (x : Int) : Int := if P.okB x = true then P.R x else -1
def standA (R : Int → Int) (n : Int) : Nat → Int → Int → Int
  | 0, x, _ => x
  | d + 1, x, v => if v > 0 then (if x + less v (R x) > n then -1 else standA R n d (x + less v (R x)) (less v (R x))) else x
def PR.standAt (P : PR) (x v : Int) : Int := if P.okB x = true ∧ 0 ≤ v ∧ v ≤ 10000 then standA P.R (tot P.ps) 10001 x v else -1
/-- The reference's own question, in three steps. -/
theorem ev_sok {α : Type} {x : Int} {F : Nat → Int → Option α} {G H : Nat → Option α} {r : α} (hF : P.okB x = true → Ev (fun k => F k (tot P.ps)) r) (hG : P.okB x = false → Ev G r) (hH : P.okB x = false → Ev H r) :
    Ev (fun k => (spec_ProfileOk.f k P.ps P.zs P.tr P.en P.de).bind fun t => if t = 0 then ((spec_l2total.f k P.ps P.zs P.tr P.en P.de).bind fun n => ((spec_l1in.f x 0 n).bind fun b => if b = true then F k n else G k)) else H k) r := by
  refine Ev.bind (ev_sPOk P.ps P.zs P.tr P.en P.de) ?_
  by_cases c : pokV P.ps P.zs P.tr P.en P.de = 0
  · have hg : Good P := (pok_zero ..).mp c
    refine pos_ c (Ev.bind (ev_sTotal hg.gp P.zs P.tr P.en P.de) ?_)
    by_cases c1 : 0 ≤ x ∧ x ≤ tot P.ps
    · exact bindc (l1in_t c1) (pos_ rfl (hF (okB_iff.mpr ⟨hg, c1.1, c1.2⟩)))
    · refine bindc (l1in_f c1) (neg_ (by decide) (hG ?_))
      rw [Bool.eq_false_iff]; exact fun z => c1 ⟨(okB_iff.mp z).2.1, (okB_iff.mp z).2.2⟩
  · refine neg_ c (hH ?_)
    unfold PR.okB; rw [decide_eq_false c]; rfl
theorem ok_le' {x : Int} (h : P.ok x) : x ≤ 1000000000 := by
  have := ok_le h; omega
theorem ev_sBrakeAt (x : Int) : Ev (fun k => spec_BrakeAt.f k P.ps P.zs P.tr P.en P.de x) (P.rateAt x) := by
  simp only [spec_BrakeAt.f]
  unfold PR.rateAt
  refine ev_sok (F := fun k _ => (spec_l2rate.f k P.ps P.zs P.tr P.en P.de x).bind fun t => some t) (fun c => ?_) (fun c => ?_) fun c => ?_
  · have ho := okB_iff.mp c
    rw [if_pos c]; exact Ev.bind (ev_l2rate ho.1 ho.2.1 (ok_le' ho)) (now_ rfl)
  · rw [c]; exact now_ rfl
  · rw [c]; exact now_ rfl
end
end Go.Proofs.Ytanjbdgmnecacaa.Pure
