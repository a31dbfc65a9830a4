-- Written by a program of this session (wip/print/myprint.py) over the kit's print, with contracts of its own; not a text of print.sh's.
import Derived.Test.YtanjbdgmnecacaaDoorPTx0
import Derived.Test.YtanjbdgmnecacaaDoorPTx23
namespace Go.Proofs.YtanjbdgmnecacaaDoor.PT
open Go.RowKit Go.Proofs.YtanjbdgmnecacaaDoorW.PrintWords Go.Proofs.YtanjbdgmnecacaaDoorW.PrintLast Go.Proofs.YtanjbdgmnecacaaDoorW.PrintMore
attribute [local go_sem] max2_int min2_int max_two min_two   -- for this text's walks alone
set_option linter.unusedVariables false
set_option linter.unusedSimpArgs false

/-! ### spec_l5R_num: function 24 -/
mutual
def spec_l5R_num.l0 : Nat → Int → Int → ByteArray → Int → Int → Option (Int × ByteArray × Int × Int)
 | 0,_,_,_,_,_ => none
 | k + 1,x3,x4,x1000,x1001,x1002 => if x1002 < 0 then (if x1001 < (x1000.size : Int) then (if 0 ≤ x1001 then (if (bt x1000 x1001) ≥ 48 then (spec_l5R_num.j1 k x3 x4 (decide ((bt x1000 x1001) ≤ 57)) x1000 x1001 x1002) else (spec_l5R_num.j1 k x3 x4 false x1000 x1001 x1002)) else (none)) else (spec_l5R_num.j1 k x3 x4 false x1000 x1001 x1002)) else (spec_l5R_num.j1 k x3 x4 false x1000 x1001 x1002)
def spec_l5R_num.j1 : Nat → Int → Int → Bool → ByteArray → Int → Int → Option (Int × ByteArray × Int × Int)
 | 0,_,_,_,_,_,_ => none
 | k + 1,x3,x4,x49,x1000,x1001,x1002 => if x49 = true then (if (wrap64 (x1001 - x4)) = 9 then (some (0,x1000,x1001,x1001)) else (if x1001 > x4 then (if x3 = 0 then (some (0,x1000,x1001,x1001)) else (if 0 ≤ x1001 then (if x1001 < (x1000.size : Int) then (spec_l5R_num.l0 k (wrap64 ((wrap64 (10 * x3)) + (((bt x1000 x1001) - 48) % 256))) x4 x1000 (wrap64 (x1001 + 1)) x1002) else (none)) else (none))) else (if 0 ≤ x1001 then (if x1001 < (x1000.size : Int) then (spec_l5R_num.l0 k (wrap64 ((wrap64 (10 * x3)) + (((bt x1000 x1001) - 48) % 256))) x4 x1000 (wrap64 (x1001 + 1)) x1002) else (none)) else (none)))) else (if x1002 < 0 then (if x1001 = x4 then (some (x3,x1000,x1001,x1001)) else (some (x3,x1000,x1001,x1002))) else (some (x3,x1000,x1001,x1002)))
end
def spec_l5R_num.f (k : Nat) (s0_0 : ByteArray) (s0_1 : Int) (s0_2 : Int) : Option (Int × ByteArray × Int × Int):=spec_l5R_num.l0 k 0 s0_1 s0_0 s0_1 s0_2
theorem spec_l5R_num.mono_l : ∀ k,(∀ y0 y1 y2 y3 y4,LeO (spec_l5R_num.l0 k y0 y1 y2 y3 y4) (spec_l5R_num.l0 (k + 1) y0 y1 y2 y3 y4))∧(∀ y0 y1 y2 y3 y4 y5,LeO (spec_l5R_num.j1 k y0 y1 y2 y3 y4 y5) (spec_l5R_num.j1 (k + 1) y0 y1 y2 y3 y4 y5))
 | 0 => ⟨fun _ _ _ _ _ r h => by simp [spec_l5R_num.l0] at h,fun _ _ _ _ _ _ r h => by simp [spec_l5R_num.j1] at h⟩
 | k + 1 => by
  obtain ⟨ih0,ih1⟩:=spec_l5R_num.mono_l k;refine ⟨?_,?_⟩
  ·intro y0 y1 y2 y3 y4;unfold spec_l5R_num.l0
   repeat' first
   | (with_reducible exact ih0 _ _ _ _ _)
   | (with_reducible exact ih1 _ _ _ _ _ _)
   | (with_reducible exact LeO.refl _)
   | (with_reducible exact LeO.none _)
   | (with_reducible refine LeO.ite ?_ ?_)
   | (with_reducible refine LeO.bind ?_ (fun _ => ?_))
   | exact ih0 _ _ _ _ _
   | exact ih1 _ _ _ _ _ _
   | exact LeO.none _
   | refine LeO.ite ?_ ?_
   | refine LeO.bind ?_ (fun _ => ?_)
  ·intro y0 y1 y2 y3 y4 y5;unfold spec_l5R_num.j1
   repeat' first
   | (with_reducible exact ih0 _ _ _ _ _)
   | (with_reducible exact ih1 _ _ _ _ _ _)
   | (with_reducible exact LeO.refl _)
   | (with_reducible exact LeO.none _)
   | (with_reducible refine LeO.ite ?_ ?_)
   | (with_reducible refine LeO.bind ?_ (fun _ => ?_))
   | exact ih0 _ _ _ _ _
   | exact ih1 _ _ _ _ _ _
   | exact LeO.none _
   | refine LeO.ite ?_ ?_
   | refine LeO.bind ?_ (fun _ => ?_)
theorem spec_l5R_num.mono : ∀ a0 a1 a2 k,LeO (spec_l5R_num.f k a0 a1 a2) (spec_l5R_num.f (k + 1) a0 a1 a2):=by
 intro a0 a1 a2 k;obtain ⟨ih0,ih1⟩:=spec_l5R_num.mono_l k;unfold spec_l5R_num.f
 repeat' first
   | (with_reducible exact ih0 _ _ _ _ _)
   | (with_reducible exact ih1 _ _ _ _ _ _)
   | (with_reducible exact LeO.refl _)
   | (with_reducible exact LeO.none _)
   | (with_reducible refine LeO.ite ?_ ?_)
   | (with_reducible refine LeO.bind ?_ (fun _ => ?_))
   | exact ih0 _ _ _ _ _
   | exact ih1 _ _ _ _ _ _
   | exact LeO.none _
   | refine LeO.ite ?_ ?_
   | refine LeO.bind ?_ (fun _ => ?_)
set_option maxHeartbeats 8000000 in
set_option maxRecDepth 100000 in
theorem spec_l5R_num.calls (k : Nat) (g : Nat) (s0_0 : ByteArray) (s0_1 : Int) (s0_2 : Int) (r1 : Int) (r2 : ByteArray) (r3 : Int) (r4 : Int) (w0 w : World) (hI : IsS64 w0 w g s0_0 s0_1 s0_2) (hB : Below w0.heap.size w0 w) (h : spec_l5R_num.f k s0_0 s0_1 s0_2 = some (r1,r2,r3,r4)) :
  Calls Tryd.prog 24 #[.pointer (some ⟨g,0,none⟩)] w fun e w' => e = .returned (.int .i64 r1)∧IsS64 w0 w' g r2 r3 r4∧Below w0.heap.size w0 w'∧KeepBut w w' g none:=by
 have HI0:=Am hI;have HK:=Am (KeepBut.refl w g none);have HL:=Am hB.size;clear hI;have HW0:=Am hB.size;have HB:=Am hB;clear hB;have H : (spec_l5R_num.l0 k 0 s0_1 s0_0 s0_1 s0_2) = some (r1,r2,r3,r4):=h;clear h;have H':=Am H;clear H;obtain ⟨HGz2,hgz2⟩:=HI0.out;have hcz2_0:=cellS64_0 HGz2;have hcz2_1:=cellS64_1 HGz2;have hcz2_2:=cellS64_2 HGz2;have hfz2_0:=kF HGz2 0;have hfz2_1:=kF HGz2 1;have hfz2_2:=kF HGz2 2;clear HGz2 hgz2
 go_enter Tryd.func24,Tryd.ntmps24
 go_wp2
 repeat (go_quiet (fail);try go_wp2)
 go_loopg [3] k (fun kq v3 w' => ∃ (x3_1 : Int) (x1001_1 : Int) (x1002_1 : Int),v3 = .int .i64 x3_1∧As (spec_l5R_num.l0 kq x3_1 s0_1 s0_0 x1001_1 x1002_1 = some (r1,r2,r3,r4))∧As (kq ≤ k)∧As (IsS64 w0 w' g s0_0 x1001_1 x1002_1)∧As (KeepBut w w' g none)∧As (Below w0.heap.size w0 w'))
 case atStart => exact ⟨(0),(s0_1),(s0_2),vL_,H',⟨Nat.le_refl _⟩,⟨by repeat (first|(with_reducible first|exact HI0.out|apply IsS64.alloc|apply IsS64.drewN|apply IsS64.drew|apply IsS64.set_0|apply IsS64.set_1|apply IsS64.set_2)|exact HI0.out)⟩,⟨by repeat (first|(with_reducible first|exact HK.out|apply KeepBut.set_|apply keep_drewN|apply keep_drew|apply keep_alloc)|exact HK.out)⟩,⟨by repeat (first|(with_reducible first|exact HB.out|apply bA|apply bN|apply bD|refine bS ?_ (IsS64.ge HI0.out))|exact HB.out)⟩⟩
 case round =>
  clear H';(try clear c2);(try clear p2);(try clear hcz2_0 hcz2_1 hcz2_2 hfz2_0 hfz2_1 hfz2_2);obtain ⟨x3_1,x1001_1,x1002_1,rfl,HA,HK1,HI0,HK,HB⟩:=hrel
  cases gk with
  | zero => exact absurd HA.out (by simp [spec_l5R_num.l0])
  | succ k1 =>
   have H:=HA.out;clear HA;simp only [spec_l5R_num.l0] at H;have HC3:=Am H;clear H
   go_upto_region 3 with (fail)
   repeat (go_quiet (fail);go_upto_region 3 with (fail))
   go_cut [49] (fun v49 wc => ∃ (kq : Nat) (x49_2 : Bool),v49 = .bool x49_2∧As (spec_l5R_num.j1 kq x3_1 s0_1 x49_2 s0_0 x1001_1 x1002_1 = some (r1,r2,r3,r4))∧As (kq ≤ k1)∧As (IsS64 w0 wc g s0_0 x1001_1 x1002_1)∧As (KeepBut w wc g none)∧As (Below w0.heap.size w0 wc))
   case first =>
    have H:=HC3.out;clear HC3
    by_cases c4 : x1002_1 < 0
    ·rw [if_pos c4] at H;have c4b0 : decide (x1002_1 < 0) = true:=decide_eq_true c4;clear c4
     (first|rw [c4b0]|(simp only [i64_w,i32_w];rw [c4b0])|skip)
     by_cases c5 : x1001_1 < (s0_0.size : Int)
     ·rw [if_pos c5] at H;have c5b0 : decide (x1001_1 < (s0_0.size : Int)) = true:=decide_eq_true c5;clear c5
      by_cases c6 : 0 ≤ x1001_1
      ·rw [if_pos c6] at H;have c6b0 : decide (0 ≤ x1001_1) = true:=decide_eq_true c6;clear c6
       by_cases c8 : (bt s0_0 x1001_1) ≥ 48
       ·rw [if_pos c8] at H;have c8b0 : decide (48 ≤ (bt s0_0 x1001_1)) = true:=decide_eq_true c8;clear c8;have H':=Am H;clear H;obtain ⟨HGz10,hgz10⟩:=HI0.out;have hcz10_0:=cellS64_0 HGz10;have hcz10_1:=cellS64_1 HGz10;have hcz10_2:=cellS64_2 HGz10;have hfz10_0:=kF HGz10 0;have hfz10_1:=kF HGz10 1;have hfz10_2:=kF HGz10 2;clear HGz10 hgz10;have p7 : 0 ≤ (x1001_1 : Int):=of_decide_eq_true (by first|(with_reducible assumption)|assumption);have q7 : x1001_1 < (s0_0.size : Int):=of_decide_eq_true (by first|(with_reducible assumption)|assumption);have hx7:=bt_at s0_0 x1001_1;replace p7:=eq_true p7;replace q7:=eq_true q7;have p9 : 0 ≤ (x1001_1 : Int):=of_decide_eq_true (by first|(with_reducible assumption)|assumption);have q9 : x1001_1 < (s0_0.size : Int):=of_decide_eq_true (by first|(with_reducible assumption)|assumption);have hx9:=bt_at s0_0 x1001_1;replace p9:=eq_true p9;replace q9:=eq_true q9;go_wp2
        repeat (go_quiet (fail);try go_wp2)
        go_meet
        case rel => exact ⟨_,(decide ((bt s0_0 x1001_1) ≤ 57)),vL_,H',⟨by have:=HK1.out;first|omega|exact Nat.le_refl _⟩,⟨by repeat (first|(with_reducible first|exact HI0.out|apply IsS64.alloc|apply IsS64.drewN|apply IsS64.drew|apply IsS64.set_0|apply IsS64.set_1|apply IsS64.set_2)|exact HI0.out)⟩,⟨by repeat (first|(with_reducible first|exact HK.out|apply KeepBut.set_|apply keep_drewN|apply keep_drew|apply keep_alloc)|exact HK.out)⟩,⟨by repeat (first|(with_reducible first|exact HB.out|apply bA|apply bN|apply bD|refine bS ?_ (IsS64.ge HI0.out))|exact HB.out)⟩⟩
       ·rw [if_neg c8] at H;have c8b0 : decide (48 ≤ (bt s0_0 x1001_1)) = false:=decide_eq_false c8;clear c8;have H':=Am H;clear H;obtain ⟨HGz11,hgz11⟩:=HI0.out;have hcz11_0:=cellS64_0 HGz11;have hcz11_1:=cellS64_1 HGz11;have hcz11_2:=cellS64_2 HGz11;have hfz11_0:=kF HGz11 0;have hfz11_1:=kF HGz11 1;have hfz11_2:=kF HGz11 2;clear HGz11 hgz11;have p7 : 0 ≤ (x1001_1 : Int):=of_decide_eq_true (by first|(with_reducible assumption)|assumption);have q7 : x1001_1 < (s0_0.size : Int):=of_decide_eq_true (by first|(with_reducible assumption)|assumption);have hx7:=bt_at s0_0 x1001_1;replace p7:=eq_true p7;replace q7:=eq_true q7;go_wp2
        repeat (go_quiet (fail);try go_wp2)
        go_meet
        case rel => exact ⟨_,(false),vL_,H',⟨by have:=HK1.out;first|omega|exact Nat.le_refl _⟩,⟨by repeat (first|(with_reducible first|exact HI0.out|apply IsS64.alloc|apply IsS64.drewN|apply IsS64.drew|apply IsS64.set_0|apply IsS64.set_1|apply IsS64.set_2)|exact HI0.out)⟩,⟨by repeat (first|(with_reducible first|exact HK.out|apply KeepBut.set_|apply keep_drewN|apply keep_drew|apply keep_alloc)|exact HK.out)⟩,⟨by repeat (first|(with_reducible first|exact HB.out|apply bA|apply bN|apply bD|refine bS ?_ (IsS64.ge HI0.out))|exact HB.out)⟩⟩
      ·rw [if_neg c6] at H;exact absurd H (by simp)
     ·rw [if_neg c5] at H;have c5b0 : decide (x1001_1 < (s0_0.size : Int)) = false:=decide_eq_false c5;clear c5;have H':=Am H;clear H;obtain ⟨HGz12,hgz12⟩:=HI0.out;have hcz12_0:=cellS64_0 HGz12;have hcz12_1:=cellS64_1 HGz12;have hcz12_2:=cellS64_2 HGz12;have hfz12_0:=kF HGz12 0;have hfz12_1:=kF HGz12 1;have hfz12_2:=kF HGz12 2;clear HGz12 hgz12;go_wp2
      repeat (go_quiet (fail);try go_wp2)
      go_meet
      case rel => exact ⟨_,(false),vL_,H',⟨by have:=HK1.out;first|omega|exact Nat.le_refl _⟩,⟨by repeat (first|(with_reducible first|exact HI0.out|apply IsS64.alloc|apply IsS64.drewN|apply IsS64.drew|apply IsS64.set_0|apply IsS64.set_1|apply IsS64.set_2)|exact HI0.out)⟩,⟨by repeat (first|(with_reducible first|exact HK.out|apply KeepBut.set_|apply keep_drewN|apply keep_drew|apply keep_alloc)|exact HK.out)⟩,⟨by repeat (first|(with_reducible first|exact HB.out|apply bA|apply bN|apply bD|refine bS ?_ (IsS64.ge HI0.out))|exact HB.out)⟩⟩
    ·rw [if_neg c4] at H;have c4b0 : decide (x1002_1 < 0) = false:=decide_eq_false c4;clear c4
     (first|rw [c4b0]|(simp only [i64_w,i32_w];rw [c4b0])|skip)
     have H':=Am H;clear H;obtain ⟨HGz13,hgz13⟩:=HI0.out;have hcz13_0:=cellS64_0 HGz13;have hcz13_1:=cellS64_1 HGz13;have hcz13_2:=cellS64_2 HGz13;have hfz13_0:=kF HGz13 0;have hfz13_1:=kF HGz13 1;have hfz13_2:=kF HGz13 2;clear HGz13 hgz13;go_wp2
     repeat (go_quiet (fail);try go_wp2)
     go_meet
     case rel => exact ⟨_,(false),vL_,H',⟨by have:=HK1.out;first|omega|exact Nat.le_refl _⟩,⟨by repeat (first|(with_reducible first|exact HI0.out|apply IsS64.alloc|apply IsS64.drewN|apply IsS64.drew|apply IsS64.set_0|apply IsS64.set_1|apply IsS64.set_2)|exact HI0.out)⟩,⟨by repeat (first|(with_reducible first|exact HK.out|apply KeepBut.set_|apply keep_drewN|apply keep_drew|apply keep_alloc)|exact HK.out)⟩,⟨by repeat (first|(with_reducible first|exact HB.out|apply bA|apply bN|apply bD|refine bS ?_ (IsS64.ge HI0.out))|exact HB.out)⟩⟩
   case rest =>
    clear HC3;(try clear c2);(try clear p2);(try clear c4);(try clear c4b0);(try clear c5);(try clear c5b0);(try clear c6);(try clear c6b0);(try clear p7);(try clear q7);(try clear hx7);(try clear c8);(try clear c8b0);(try clear p9);(try clear q9);(try clear hx9);(try clear hcz10_0 hcz10_1 hcz10_2 hcz11_0 hcz11_1 hcz11_2 hcz12_0 hcz12_1 hcz12_2 hcz13_0 hcz13_1 hcz13_2 hcz2_0 hcz2_1 hcz2_2 hfz10_0 hfz10_1 hfz10_2 hfz11_0 hfz11_1 hfz11_2 hfz12_0 hfz12_1 hfz12_2 hfz13_0 hfz13_1 hfz13_2 hfz2_0 hfz2_1 hfz2_2);(try clear p2);(try clear p7);(try clear p9);(try clear q7);(try clear q9);obtain ⟨kq,x49_2,rfl,HA,HJ2,HI0,HK,HB⟩:=hcut
    cases kq with
    | zero => exact absurd HA.out (by simp [spec_l5R_num.j1])
    | succ kj2 =>
     have H:=HA.out;clear HA;simp only [spec_l5R_num.j1] at H
     by_cases c14 : x49_2 = true
     ·subst c14
      rw [if_pos rfl] at H
      by_cases c15 : (wrap64 (x1001_1 - s0_1)) = 9
      ·rw [if_pos c15] at H;have c15b0 : ((wrap64 (x1001_1 - s0_1)) == 9) = true:=beq_iff_eq.mpr c15;have c15b1 : ((wrap64 (x1001_1 - s0_1)) != 9) = false:=bne_eq_false_iff_eq.mpr c15;clear c15;simp only [Option.some.injEq,Prod.mk.injEq] at H;obtain ⟨rfl,rfl,rfl,rfl⟩:=H;obtain ⟨HGz16,hgz16⟩:=HI0.out;have hcz16_0:=cellS64_0 HGz16;have hcz16_1:=cellS64_1 HGz16;have hcz16_2:=cellS64_2 HGz16;have hfz16_0:=kF HGz16 0;have hfz16_1:=kF HGz16 1;have hfz16_2:=kF HGz16 2;clear HGz16 hgz16;go_wp2
       repeat (go_quiet (fail);try go_wp2)
       go_ret;exact ⟨eL_,by repeat (first|(with_reducible first|exact HI0.out|apply IsS64.alloc|apply IsS64.drewN|apply IsS64.drew|apply IsS64.set_0|apply IsS64.set_1|apply IsS64.set_2)|exact HI0.out),by repeat (first|(with_reducible first|exact HB.out|apply bA|apply bN|apply bD|refine bS ?_ (IsS64.ge HI0.out))|exact HB.out),by repeat (first|(with_reducible first|exact HK.out|apply KeepBut.set_|apply keep_drewN|apply keep_drew|apply keep_alloc)|exact HK.out)⟩
      ·rw [if_neg c15] at H;have c15b0 : ((wrap64 (x1001_1 - s0_1)) == 9) = false:=beq_eq_false_iff_ne.mpr c15;have c15b1 : ((wrap64 (x1001_1 - s0_1)) != 9) = true:=bne_iff_ne.mpr c15
       by_cases c17 : x1001_1 > s0_1
       ·rw [if_pos c17] at H;have c17b0 : decide (s0_1 < x1001_1) = true:=decide_eq_true c17;clear c17
        by_cases c18 : x3_1 = 0
        ·rw [if_pos c18] at H;have c18b0 : (x3_1 == 0) = true:=beq_iff_eq.mpr c18;have c18b1 : (x3_1 != 0) = false:=bne_eq_false_iff_eq.mpr c18;clear c18;simp only [Option.some.injEq,Prod.mk.injEq] at H;obtain ⟨rfl,rfl,rfl,rfl⟩:=H;obtain ⟨HGz19,hgz19⟩:=HI0.out;have hcz19_0:=cellS64_0 HGz19;have hcz19_1:=cellS64_1 HGz19;have hcz19_2:=cellS64_2 HGz19;have hfz19_0:=kF HGz19 0;have hfz19_1:=kF HGz19 1;have hfz19_2:=kF HGz19 2;clear HGz19 hgz19;go_wp2
         repeat (go_quiet (fail);try go_wp2)
         go_ret;exact ⟨eL_,by repeat (first|(with_reducible first|exact HI0.out|apply IsS64.alloc|apply IsS64.drewN|apply IsS64.drew|apply IsS64.set_0|apply IsS64.set_1|apply IsS64.set_2)|exact HI0.out),by repeat (first|(with_reducible first|exact HB.out|apply bA|apply bN|apply bD|refine bS ?_ (IsS64.ge HI0.out))|exact HB.out),by repeat (first|(with_reducible first|exact HK.out|apply KeepBut.set_|apply keep_drewN|apply keep_drew|apply keep_alloc)|exact HK.out)⟩
        ·rw [if_neg c18] at H;have c18b0 : (x3_1 == 0) = false:=beq_eq_false_iff_ne.mpr c18;have c18b1 : (x3_1 != 0) = true:=bne_iff_ne.mpr c18
         by_cases c20 : 0 ≤ x1001_1
         ·rw [if_pos c20] at H;have c20b0 : decide (0 ≤ x1001_1) = true:=decide_eq_true c20;clear c20
          by_cases c21 : x1001_1 < (s0_0.size : Int)
          ·rw [if_pos c21] at H;have c21b0 : decide (x1001_1 < (s0_0.size : Int)) = true:=decide_eq_true c21;clear c21;have H':=Am H;clear H;obtain ⟨HGz23,hgz23⟩:=HI0.out;have hcz23_0:=cellS64_0 HGz23;have hcz23_1:=cellS64_1 HGz23;have hcz23_2:=cellS64_2 HGz23;have hfz23_0:=kF HGz23 0;have hfz23_1:=kF HGz23 1;have hfz23_2:=kF HGz23 2;clear HGz23 hgz23;have p22 : 0 ≤ (x1001_1 : Int):=of_decide_eq_true (by first|(with_reducible assumption)|assumption);have q22 : x1001_1 < (s0_0.size : Int):=of_decide_eq_true (by first|(with_reducible assumption)|assumption);have hx22:=bt_at s0_0 x1001_1;replace p22:=eq_true p22;replace q22:=eq_true q22;go_wp2
           repeat (go_quiet (fail);try go_wp2)
           go_roundg kj2
           case measure => have:=HK1.out;have:=HJ2.out;omega
           case rel => exact ⟨(wrap64 ((wrap64 (10 * x3_1)) + (((bt s0_0 x1001_1) - 48) % 256))),(wrap64 (x1001_1 + 1)),(x1002_1),vL_,H',⟨by have:=HK1.out;have:=HJ2.out;omega⟩,⟨by repeat (first|(with_reducible first|exact HI0.out|apply IsS64.alloc|apply IsS64.drewN|apply IsS64.drew|apply IsS64.set_0|apply IsS64.set_1|apply IsS64.set_2)|exact HI0.out)⟩,⟨by repeat (first|(with_reducible first|exact HK.out|apply KeepBut.set_|apply keep_drewN|apply keep_drew|apply keep_alloc)|exact HK.out)⟩,⟨by repeat (first|(with_reducible first|exact HB.out|apply bA|apply bN|apply bD|refine bS ?_ (IsS64.ge HI0.out))|exact HB.out)⟩⟩
          ·rw [if_neg c21] at H;exact absurd H (by simp)
         ·rw [if_neg c20] at H;exact absurd H (by simp)
       ·rw [if_neg c17] at H;have c17b0 : decide (s0_1 < x1001_1) = false:=decide_eq_false c17;clear c17
        by_cases c24 : 0 ≤ x1001_1
        ·rw [if_pos c24] at H;have c24b0 : decide (0 ≤ x1001_1) = true:=decide_eq_true c24;clear c24
         by_cases c25 : x1001_1 < (s0_0.size : Int)
         ·rw [if_pos c25] at H;have c25b0 : decide (x1001_1 < (s0_0.size : Int)) = true:=decide_eq_true c25;clear c25;have H':=Am H;clear H;obtain ⟨HGz27,hgz27⟩:=HI0.out;have hcz27_0:=cellS64_0 HGz27;have hcz27_1:=cellS64_1 HGz27;have hcz27_2:=cellS64_2 HGz27;have hfz27_0:=kF HGz27 0;have hfz27_1:=kF HGz27 1;have hfz27_2:=kF HGz27 2;clear HGz27 hgz27;have p26 : 0 ≤ (x1001_1 : Int):=of_decide_eq_true (by first|(with_reducible assumption)|assumption);have q26 : x1001_1 < (s0_0.size : Int):=of_decide_eq_true (by first|(with_reducible assumption)|assumption);have hx26:=bt_at s0_0 x1001_1;replace p26:=eq_true p26;replace q26:=eq_true q26;go_wp2
          repeat (go_quiet (fail);try go_wp2)
          go_roundg kj2
          case measure => have:=HK1.out;have:=HJ2.out;omega
          case rel => exact ⟨(wrap64 ((wrap64 (10 * x3_1)) + (((bt s0_0 x1001_1) - 48) % 256))),(wrap64 (x1001_1 + 1)),(x1002_1),vL_,H',⟨by have:=HK1.out;have:=HJ2.out;omega⟩,⟨by repeat (first|(with_reducible first|exact HI0.out|apply IsS64.alloc|apply IsS64.drewN|apply IsS64.drew|apply IsS64.set_0|apply IsS64.set_1|apply IsS64.set_2)|exact HI0.out)⟩,⟨by repeat (first|(with_reducible first|exact HK.out|apply KeepBut.set_|apply keep_drewN|apply keep_drew|apply keep_alloc)|exact HK.out)⟩,⟨by repeat (first|(with_reducible first|exact HB.out|apply bA|apply bN|apply bD|refine bS ?_ (IsS64.ge HI0.out))|exact HB.out)⟩⟩
         ·rw [if_neg c25] at H;exact absurd H (by simp)
        ·rw [if_neg c24] at H;exact absurd H (by simp)
     ·replace c14:=Bool.eq_false_iff.mpr c14;subst c14
      rw [if_neg (show ¬ (false = true) by decide)] at H
      by_cases c28 : x1002_1 < 0
      ·rw [if_pos c28] at H;have c28b0 : decide (x1002_1 < 0) = true:=decide_eq_true c28;clear c28
       by_cases c29 : x1001_1 = s0_1
       ·rw [if_pos c29] at H;have c29b0 : (x1001_1 == s0_1) = true:=beq_iff_eq.mpr c29;have c29b1 : (x1001_1 != s0_1) = false:=bne_eq_false_iff_eq.mpr c29;clear c29;simp only [Option.some.injEq,Prod.mk.injEq] at H;obtain ⟨rfl,rfl,rfl,rfl⟩:=H;obtain ⟨HGz30,hgz30⟩:=HI0.out;have hcz30_0:=cellS64_0 HGz30;have hcz30_1:=cellS64_1 HGz30;have hcz30_2:=cellS64_2 HGz30;have hfz30_0:=kF HGz30 0;have hfz30_1:=kF HGz30 1;have hfz30_2:=kF HGz30 2;clear HGz30 hgz30;go_wp2
        repeat (go_quiet (fail);try go_wp2)
        go_ret;exact ⟨eL_,by repeat (first|(with_reducible first|exact HI0.out|apply IsS64.alloc|apply IsS64.drewN|apply IsS64.drew|apply IsS64.set_0|apply IsS64.set_1|apply IsS64.set_2)|exact HI0.out),by repeat (first|(with_reducible first|exact HB.out|apply bA|apply bN|apply bD|refine bS ?_ (IsS64.ge HI0.out))|exact HB.out),by repeat (first|(with_reducible first|exact HK.out|apply KeepBut.set_|apply keep_drewN|apply keep_drew|apply keep_alloc)|exact HK.out)⟩
       ·rw [if_neg c29] at H;have c29b0 : (x1001_1 == s0_1) = false:=beq_eq_false_iff_ne.mpr c29;have c29b1 : (x1001_1 != s0_1) = true:=bne_iff_ne.mpr c29;simp only [Option.some.injEq,Prod.mk.injEq] at H;obtain ⟨rfl,rfl,rfl,rfl⟩:=H;obtain ⟨HGz31,hgz31⟩:=HI0.out;have hcz31_0:=cellS64_0 HGz31;have hcz31_1:=cellS64_1 HGz31;have hcz31_2:=cellS64_2 HGz31;have hfz31_0:=kF HGz31 0;have hfz31_1:=kF HGz31 1;have hfz31_2:=kF HGz31 2;clear HGz31 hgz31;go_wp2
        repeat (go_quiet (fail);try go_wp2)
        go_ret;exact ⟨eL_,by repeat (first|(with_reducible first|exact HI0.out|apply IsS64.alloc|apply IsS64.drewN|apply IsS64.drew|apply IsS64.set_0|apply IsS64.set_1|apply IsS64.set_2)|exact HI0.out),by repeat (first|(with_reducible first|exact HB.out|apply bA|apply bN|apply bD|refine bS ?_ (IsS64.ge HI0.out))|exact HB.out),by repeat (first|(with_reducible first|exact HK.out|apply KeepBut.set_|apply keep_drewN|apply keep_drew|apply keep_alloc)|exact HK.out)⟩
      ·rw [if_neg c28] at H;have c28b0 : decide (x1002_1 < 0) = false:=decide_eq_false c28;clear c28;simp only [Option.some.injEq,Prod.mk.injEq] at H;obtain ⟨rfl,rfl,rfl,rfl⟩:=H;obtain ⟨HGz32,hgz32⟩:=HI0.out;have hcz32_0:=cellS64_0 HGz32;have hcz32_1:=cellS64_1 HGz32;have hcz32_2:=cellS64_2 HGz32;have hfz32_0:=kF HGz32 0;have hfz32_1:=kF HGz32 1;have hfz32_2:=kF HGz32 2;clear HGz32 hgz32;go_wp2
       repeat (go_quiet (fail);try go_wp2)
       go_ret;exact ⟨eL_,by repeat (first|(with_reducible first|exact HI0.out|apply IsS64.alloc|apply IsS64.drewN|apply IsS64.drew|apply IsS64.set_0|apply IsS64.set_1|apply IsS64.set_2)|exact HI0.out),by repeat (first|(with_reducible first|exact HB.out|apply bA|apply bN|apply bD|refine bS ?_ (IsS64.ge HI0.out))|exact HB.out),by repeat (first|(with_reducible first|exact HK.out|apply KeepBut.set_|apply keep_drewN|apply keep_drew|apply keep_alloc)|exact HK.out)⟩

end Go.Proofs.YtanjbdgmnecacaaDoor.PT
