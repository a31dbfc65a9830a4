-- Written by a program of this session (wip/print/myprint.py) over the kit's print, with contracts of its own; not a text of print.sh's.
import Derived.Test.YtanjbdgmnecacaaPRx0
namespace Go.Proofs.Ytanjbdgmnecacaa.PR
open Go.RowKit Go.Proofs.YtanjbdgmnecacaaW.PrintWords Go.Proofs.YtanjbdgmnecacaaW.PrintLast Go.Proofs.YtanjbdgmnecacaaW.PrintMore
attribute [local go_sem] max2_int min2_int max_two min_two   -- for this text's walks alone
set_option linter.unusedVariables false
set_option linter.unusedSimpArgs false

/-! ### laws_wLater: function 28 -/
def laws_wLater.l0 : Nat → List Int → List Int → Int → Int → Option (Bool)
 | 0,_,_,_,_ => none
 | k + 1,x0,x1,x7,x8 => if x8 < x7 then (if x8 < (x1.length : Int) then (if 0 ≤ x8 then (if x8 < (x0.length : Int) then (if (rd x0 x8) = (rd x1 x8) then (laws_wLater.l0 k x0 x1 x7 (wrap64 (x8 + 1))) else (some (decide ((rd x0 x8) > (rd x1 x8))))) else (none)) else (none)) else (laws_wLater.l0 k x0 x1 x7 (wrap64 (x8 + 1)))) else (some false)
def laws_wLater.f (k : Nat) (l0 : List Int) (l1 : List Int) : Option (Bool):=laws_wLater.l0 k l0 l1 (l0.length : Int) 0
theorem laws_wLater.mono_l : ∀ k,(∀ y0 y1 y2 y3,LeO (laws_wLater.l0 k y0 y1 y2 y3) (laws_wLater.l0 (k + 1) y0 y1 y2 y3))
 | 0 => fun _ _ _ _ r h => by simp [laws_wLater.l0] at h
 | k + 1 => by
  have ih0:=laws_wLater.mono_l k
  ·intro y0 y1 y2 y3;unfold laws_wLater.l0
   repeat' first
   | (with_reducible exact ih0 _ _ _ _)
   | (with_reducible exact LeO.refl _)
   | (with_reducible exact LeO.none _)
   | (with_reducible refine LeO.ite ?_ ?_)
   | (with_reducible refine LeO.bind ?_ (fun _ => ?_))
   | exact ih0 _ _ _ _
   | exact LeO.none _
   | refine LeO.ite ?_ ?_
   | refine LeO.bind ?_ (fun _ => ?_)
theorem laws_wLater.mono : ∀ a0 a1 k,LeO (laws_wLater.f k a0 a1) (laws_wLater.f (k + 1) a0 a1):=by
 intro a0 a1 k;have ih0:=laws_wLater.mono_l k;unfold laws_wLater.f
 repeat' first
   | (with_reducible exact ih0 _ _ _ _)
   | (with_reducible exact LeO.refl _)
   | (with_reducible exact LeO.none _)
   | (with_reducible refine LeO.ite ?_ ?_)
   | (with_reducible refine LeO.bind ?_ (fun _ => ?_))
   | exact ih0 _ _ _ _
   | exact LeO.none _
   | refine LeO.ite ?_ ?_
   | refine LeO.bind ?_ (fun _ => ?_)
set_option maxHeartbeats 8000000 in
set_option maxRecDepth 100000 in
theorem laws_wLater.calls (k : Nat) (A0 : Option Addr) (c0 : Nat) (l0 : List Int) (A1 : Option Addr) (c1 : Nat) (l1 : List Int) (r : Bool) (w : World) (hr0 : Kd.C (Kd.int .i64) w A0 l0.length l0) (hc0 : l0.length ≤ c0) (hr1 : Kd.C (Kd.int .i64) w A1 l1.length l1) (hc1 : l1.length ≤ c1) (h : laws_wLater.f k l0 l1 = some r) :
  Calls Try.prog 28 #[.slice A0 l0.length c0,.slice A1 l1.length c1] w fun e w' => e = .returned (.bool r)∧Drawn0 w w':=by
 have HR0:=Am hr0;have HC0:=Am hc0;clear hr0 hc0;have HR1:=Am hr1;have HC1:=Am hc1;clear hr1 hc1;have H : (laws_wLater.l0 k l0 l1 (l0.length : Int) 0) = some r:=h;clear h;have H':=Am H;clear H
 go_enter Try.func28,Try.ntmps28
 go_wp2
 repeat (go_quiet (fail);try go_wp2)
 go_loopg [8] k (fun kq v8 w' => ∃ (x8_1 : Int),v8 = .int .i64 x8_1∧As (laws_wLater.l0 kq l0 l1 (l0.length : Int) x8_1 = some r)∧As (kq ≤ k)∧Drawn0 w w')
 case atStart => exact ⟨(0),(by first|rfl|(simp;done)|(simp [*];done)),H',⟨Nat.le_refl _⟩,by repeat (first|exact Drawn0.refl _|apply Drawn0.step)⟩
 case round =>
  clear H';(try clear c1);(try clear c2);(try clear p2);obtain ⟨x8_1,rfl,HA,HK1,⟨m1,rfl⟩⟩:=hrel
  cases gk with
  | zero => exact absurd HA.out (by simp [laws_wLater.l0])
  | succ k1 =>
   have H:=HA.out;clear HA;simp only [laws_wLater.l0] at H
   by_cases c3 : x8_1 < (l0.length : Int)
   ·rw [if_pos c3] at H;have c3b0 : decide (x8_1 < (l0.length : Int)) = true:=decide_eq_true c3;clear c3
    by_cases c4 : x8_1 < (l1.length : Int)
    ·rw [if_pos c4] at H;have c4b0 : decide (x8_1 < (l1.length : Int)) = true:=decide_eq_true c4;clear c4
     by_cases c5 : 0 ≤ x8_1
     ·rw [if_pos c5] at H;have c5b0 : decide (0 ≤ x8_1) = true:=decide_eq_true c5;clear c5
      by_cases c6 : x8_1 < (l0.length : Int)
      ·rw [if_pos c6] at H;have c6b0 : decide (x8_1 < (l0.length : Int)) = true:=decide_eq_true c6;clear c6
       by_cases c7 : (rd l0 x8_1) = (rd l1 x8_1)
       ·rw [if_pos c7] at H;have c7b0 : ((rd l0 x8_1) == (rd l1 x8_1)) = true:=beq_iff_eq.mpr c7;have c7b1 : ((rd l0 x8_1) != (rd l1 x8_1)) = false:=bne_eq_false_iff_eq.mpr c7;clear c7;have H':=Am H;clear H;have p280 : 0 ≤ (x8_1 : Int):=of_decide_eq_true (by first|(with_reducible assumption)|assumption);have q280 : x8_1 < (l0.length : Int):=of_decide_eq_true (by first|(with_reducible assumption)|assumption);obtain ⟨ad280,e280,hx280_0⟩:=Kd.at_int HR0.out x8_1 p280 q280;cases e280;replace p280:=eq_true p280;replace q280:=eq_true q280;have p281 : 0 ≤ (x8_1 : Int):=of_decide_eq_true (by first|(with_reducible assumption)|assumption);have q281 : x8_1 < (l1.length : Int):=of_decide_eq_true (by first|(with_reducible assumption)|assumption);obtain ⟨ad281,e281,hx281_0⟩:=Kd.at_int HR1.out x8_1 p281 q281;cases e281;replace p281:=eq_true p281;replace q281:=eq_true q281;go_wp2
        repeat (go_quiet (fail);try go_wp2)
        go_roundg k1
        case measure => have:=HK1.out;omega
        case rel => exact ⟨(wrap64 (x8_1 + 1)),(by first|rfl|(simp;done)|(simp [*];done)),H',⟨by have:=HK1.out;omega⟩,by repeat (first|exact Drawn0.refl _|apply Drawn0.step)⟩
       ·rw [if_neg c7] at H;have c7b0 : ((rd l0 x8_1) == (rd l1 x8_1)) = false:=beq_eq_false_iff_ne.mpr c7;have c7b1 : ((rd l0 x8_1) != (rd l1 x8_1)) = true:=bne_iff_ne.mpr c7;obtain rfl:=Option.some.inj H;have p280 : 0 ≤ (x8_1 : Int):=of_decide_eq_true (by first|(with_reducible assumption)|assumption);have q280 : x8_1 < (l0.length : Int):=of_decide_eq_true (by first|(with_reducible assumption)|assumption);obtain ⟨ad280,e280,hx280_0⟩:=Kd.at_int HR0.out x8_1 p280 q280;cases e280;replace p280:=eq_true p280;replace q280:=eq_true q280;have p281 : 0 ≤ (x8_1 : Int):=of_decide_eq_true (by first|(with_reducible assumption)|assumption);have q281 : x8_1 < (l1.length : Int):=of_decide_eq_true (by first|(with_reducible assumption)|assumption);obtain ⟨ad281,e281,hx281_0⟩:=Kd.at_int HR1.out x8_1 p281 q281;cases e281;replace p281:=eq_true p281;replace q281:=eq_true q281;have p282 : 0 ≤ (x8_1 : Int):=of_decide_eq_true (by first|(with_reducible assumption)|assumption);have q282 : x8_1 < (l0.length : Int):=of_decide_eq_true (by first|(with_reducible assumption)|assumption);obtain ⟨ad282,e282,hx282_0⟩:=Kd.at_int HR0.out x8_1 p282 q282
        obtain rfl : ad280 = ad282:=(by injection e282)
        replace p282:=eq_true p282;replace q282:=eq_true q282;have p283 : 0 ≤ (x8_1 : Int):=of_decide_eq_true (by first|(with_reducible assumption)|assumption);have q283 : x8_1 < (l1.length : Int):=of_decide_eq_true (by first|(with_reducible assumption)|assumption);obtain ⟨ad283,e283,hx283_0⟩:=Kd.at_int HR1.out x8_1 p283 q283
        obtain rfl : ad281 = ad283:=(by injection e283)
        replace p283:=eq_true p283;replace q283:=eq_true q283;go_wp2
        repeat (go_quiet (fail);try go_wp2)
        go_ret;exact ⟨by first|rfl|(simp;done)|(simp [*];done),by repeat (first|exact Drawn0.refl _|apply Drawn0.step)⟩
      ·rw [if_neg c6] at H;exact absurd H (by simp)
     ·rw [if_neg c5] at H;exact absurd H (by simp)
    ·rw [if_neg c4] at H;have c4b0 : decide (x8_1 < (l1.length : Int)) = false:=decide_eq_false c4;clear c4;have H':=Am H;clear H;go_wp2
     repeat (go_quiet (fail);try go_wp2)
     go_roundg k1
     case measure => have:=HK1.out;omega
     case rel => exact ⟨(wrap64 (x8_1 + 1)),(by first|rfl|(simp;done)|(simp [*];done)),H',⟨by have:=HK1.out;omega⟩,by repeat (first|exact Drawn0.refl _|apply Drawn0.step)⟩
   ·rw [if_neg c3] at H;have c3b0 : decide (x8_1 < (l0.length : Int)) = false:=decide_eq_false c3;clear c3;obtain rfl:=Option.some.inj H;go_wp2
    repeat (go_quiet (fail);try go_wp2)
    go_ret;exact ⟨by first|rfl|(simp;done)|(simp [*];done),by repeat (first|exact Drawn0.refl _|apply Drawn0.step)⟩

end Go.Proofs.Ytanjbdgmnecacaa.PR
