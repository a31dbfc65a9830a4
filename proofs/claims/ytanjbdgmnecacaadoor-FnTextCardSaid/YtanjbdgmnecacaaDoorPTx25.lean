-- Written by a program of this session (wip/print/myprint.py) over the kit's print, with contracts of its own; not a text of print.sh's.
import Derived.Test.YtanjbdgmnecacaaDoorPTx0
import Derived.Test.YtanjbdgmnecacaaDoorPTx23
namespace Go.Proofs.YtanjbdgmnecacaaDoor.PT
open Go.RowKit Go.Proofs.YtanjbdgmnecacaaDoorW.PrintWords Go.Proofs.YtanjbdgmnecacaaDoorW.PrintLast Go.Proofs.YtanjbdgmnecacaaDoorW.PrintMore
attribute [local go_sem] max2_int min2_int max_two min_two   -- for this text's walks alone
set_option linter.unusedVariables false
set_option linter.unusedSimpArgs false

/-! ### spec_l5R_must: function 25 -/
mutual
def spec_l5R_must.l0 : Nat → ByteArray → Int → ByteArray → Int → Int → Option (ByteArray × Int × Int)
 | 0,_,_,_,_,_ => none
 | k + 1,x1,x4,x1000,x1001,x1002 => if x4 < (x1.size : Int) then (spec_l5R_must.j1 k x1 x4 (decide (x1002 < 0)) x1000 x1001 x1002) else (spec_l5R_must.j1 k x1 x4 false x1000 x1001 x1002)
def spec_l5R_must.j1 : Nat → ByteArray → Int → Bool → ByteArray → Int → Int → Option (ByteArray × Int × Int)
 | 0,_,_,_,_,_,_ => none
 | k + 1,x1,x4,x15,x1000,x1001,x1002 => if x15 = true then (if x1001 = (x1000.size : Int) then (some (x1000,x1001,x1001)) else (if 0 ≤ x1001 then (if x1001 < (x1000.size : Int) then (if 0 ≤ x4 then (if x4 < (x1.size : Int) then (if (bt x1000 x1001) = (bt x1 x4) then (spec_l5R_must.l0 k x1 (wrap64 (x4 + 1)) x1000 (wrap64 (x1001 + 1)) x1002) else (some (x1000,x1001,x1001))) else (none)) else (none)) else (none)) else (none))) else (some (x1000,x1001,x1002))
end
def spec_l5R_must.f (k : Nat) (s0_0 : ByteArray) (s0_1 : Int) (s0_2 : Int) (a1 : ByteArray) : Option (ByteArray × Int × Int):=spec_l5R_must.l0 k a1 0 s0_0 s0_1 s0_2
theorem spec_l5R_must.mono_l : ∀ k,(∀ y0 y1 y2 y3 y4,LeO (spec_l5R_must.l0 k y0 y1 y2 y3 y4) (spec_l5R_must.l0 (k + 1) y0 y1 y2 y3 y4))∧(∀ y0 y1 y2 y3 y4 y5,LeO (spec_l5R_must.j1 k y0 y1 y2 y3 y4 y5) (spec_l5R_must.j1 (k + 1) y0 y1 y2 y3 y4 y5))
 | 0 => ⟨fun _ _ _ _ _ r h => by simp [spec_l5R_must.l0] at h,fun _ _ _ _ _ _ r h => by simp [spec_l5R_must.j1] at h⟩
 | k + 1 => by
  obtain ⟨ih0,ih1⟩:=spec_l5R_must.mono_l k;refine ⟨?_,?_⟩
  ·intro y0 y1 y2 y3 y4;unfold spec_l5R_must.l0
   repeat' first
   | (with_reducible exact ih0 _ _ _ _ _)
   | (with_reducible exact ih1 _ _ _ _ _ _)
   | (with_reducible exact LeO.refl _)
   | (with_reducible exact LeO.none _)
   | (with_reducible refine LeO.ite ?_ ?_)
   | (with_reducible refine LeO.bind ?_ (fun _ => ?_))
   | exact ih0 _ _ _ _ _
   | exact ih1 _ _ _ _ _ _
   | exact LeO.none _
   | refine LeO.ite ?_ ?_
   | refine LeO.bind ?_ (fun _ => ?_)
  ·intro y0 y1 y2 y3 y4 y5;unfold spec_l5R_must.j1
   repeat' first
   | (with_reducible exact ih0 _ _ _ _ _)
   | (with_reducible exact ih1 _ _ _ _ _ _)
   | (with_reducible exact LeO.refl _)
   | (with_reducible exact LeO.none _)
   | (with_reducible refine LeO.ite ?_ ?_)
   | (with_reducible refine LeO.bind ?_ (fun _ => ?_))
   | exact ih0 _ _ _ _ _
   | exact ih1 _ _ _ _ _ _
   | exact LeO.none _
   | refine LeO.ite ?_ ?_
   | refine LeO.bind ?_ (fun _ => ?_)
theorem spec_l5R_must.mono : ∀ a0 a1 a2 a3 k,LeO (spec_l5R_must.f k a0 a1 a2 a3) (spec_l5R_must.f (k + 1) a0 a1 a2 a3):=by
 intro a0 a1 a2 a3 k;obtain ⟨ih0,ih1⟩:=spec_l5R_must.mono_l k;unfold spec_l5R_must.f
 repeat' first
   | (with_reducible exact ih0 _ _ _ _ _)
   | (with_reducible exact ih1 _ _ _ _ _ _)
   | (with_reducible exact LeO.refl _)
   | (with_reducible exact LeO.none _)
   | (with_reducible refine LeO.ite ?_ ?_)
   | (with_reducible refine LeO.bind ?_ (fun _ => ?_))
   | exact ih0 _ _ _ _ _
   | exact ih1 _ _ _ _ _ _
   | exact LeO.none _
   | refine LeO.ite ?_ ?_
   | refine LeO.bind ?_ (fun _ => ?_)
set_option maxHeartbeats 8000000 in
set_option maxRecDepth 100000 in
theorem spec_l5R_must.calls (k : Nat) (g : Nat) (s0_0 : ByteArray) (s0_1 : Int) (s0_2 : Int) (a1 : ByteArray) (r1 : ByteArray) (r2 : Int) (r3 : Int) (w0 w : World) (hI : IsS64 w0 w g s0_0 s0_1 s0_2) (hB : Below w0.heap.size w0 w) (h : spec_l5R_must.f k s0_0 s0_1 s0_2 a1 = some (r1,r2,r3)) :
  Calls Tryd.prog 25 #[.pointer (some ⟨g,0,none⟩),.string a1] w fun e w' => e = .returned (.tuple #[])∧IsS64 w0 w' g r1 r2 r3∧Below w0.heap.size w0 w'∧KeepBut w w' g none:=by
 have HI0:=Am hI;have HK:=Am (KeepBut.refl w g none);have HL:=Am hB.size;clear hI;have HW0:=Am hB.size;have HB:=Am hB;clear hB;have H : (spec_l5R_must.l0 k a1 0 s0_0 s0_1 s0_2) = some (r1,r2,r3):=h;clear h;have H':=Am H;clear H
 go_enter Tryd.func25,Tryd.ntmps25
 go_wp2
 repeat (go_quiet (fail);try go_wp2)
 go_loopg [4] k (fun kq v4 w' => ∃ (x4_1 : Int) (x1001_1 : Int) (x1002_1 : Int),v4 = .int .i64 x4_1∧As (spec_l5R_must.l0 kq a1 x4_1 s0_0 x1001_1 x1002_1 = some (r1,r2,r3))∧As (kq ≤ k)∧As (IsS64 w0 w' g s0_0 x1001_1 x1002_1)∧As (KeepBut w w' g none)∧As (Below w0.heap.size w0 w'))
 case atStart => exact ⟨(0),(s0_1),(s0_2),vL_,H',⟨Nat.le_refl _⟩,⟨by repeat (first|(with_reducible first|exact HI0.out|apply IsS64.alloc|apply IsS64.drewN|apply IsS64.drew|apply IsS64.set_0|apply IsS64.set_1|apply IsS64.set_2)|exact HI0.out)⟩,⟨by repeat (first|(with_reducible first|exact HK.out|apply KeepBut.set_|apply keep_drewN|apply keep_drew|apply keep_alloc)|exact HK.out)⟩,⟨by repeat (first|(with_reducible first|exact HB.out|apply bA|apply bN|apply bD|refine bS ?_ (IsS64.ge HI0.out))|exact HB.out)⟩⟩
 case round =>
  clear H';(try clear c2);(try clear p2);obtain ⟨x4_1,x1001_1,x1002_1,rfl,HA,HK1,HI0,HK,HB⟩:=hrel
  cases gk with
  | zero => exact absurd HA.out (by simp [spec_l5R_must.l0])
  | succ k1 =>
   have H:=HA.out;clear HA;simp only [spec_l5R_must.l0] at H;have HC3:=Am H;clear H
   go_upto_region 1 with (fail)
   repeat (go_quiet (fail);go_upto_region 1 with (fail))
   go_cut [15] (fun v15 wc => ∃ (kq : Nat) (x15_2 : Bool),v15 = .bool x15_2∧As (spec_l5R_must.j1 kq a1 x4_1 x15_2 s0_0 x1001_1 x1002_1 = some (r1,r2,r3))∧As (kq ≤ k1)∧As (IsS64 w0 wc g s0_0 x1001_1 x1002_1)∧As (KeepBut w wc g none)∧As (Below w0.heap.size w0 wc))
   case first =>
    have H:=HC3.out;clear HC3
    by_cases c4 : x4_1 < (a1.size : Int)
    ·rw [if_pos c4] at H;have c4b0 : decide (x4_1 < (a1.size : Int)) = true:=decide_eq_true c4;clear c4
     (first|rw [c4b0]|(simp only [i64_w,i32_w];rw [c4b0])|skip)
     have H':=Am H;clear H;obtain ⟨HGz5,hgz5⟩:=HI0.out;have hcz5_0:=cellS64_0 HGz5;have hcz5_1:=cellS64_1 HGz5;have hcz5_2:=cellS64_2 HGz5;have hfz5_0:=kF HGz5 0;have hfz5_1:=kF HGz5 1;have hfz5_2:=kF HGz5 2;clear HGz5 hgz5;go_wp2
     repeat (go_quiet (fail);try go_wp2)
     go_meet
     case rel => exact ⟨_,(decide (x1002_1 < 0)),vL_,H',⟨by have:=HK1.out;first|omega|exact Nat.le_refl _⟩,⟨by repeat (first|(with_reducible first|exact HI0.out|apply IsS64.alloc|apply IsS64.drewN|apply IsS64.drew|apply IsS64.set_0|apply IsS64.set_1|apply IsS64.set_2)|exact HI0.out)⟩,⟨by repeat (first|(with_reducible first|exact HK.out|apply KeepBut.set_|apply keep_drewN|apply keep_drew|apply keep_alloc)|exact HK.out)⟩,⟨by repeat (first|(with_reducible first|exact HB.out|apply bA|apply bN|apply bD|refine bS ?_ (IsS64.ge HI0.out))|exact HB.out)⟩⟩
    ·rw [if_neg c4] at H;have c4b0 : decide (x4_1 < (a1.size : Int)) = false:=decide_eq_false c4;clear c4
     (first|rw [c4b0]|(simp only [i64_w,i32_w];rw [c4b0])|skip)
     have H':=Am H;clear H;go_wp2
     repeat (go_quiet (fail);try go_wp2)
     go_meet
     case rel => exact ⟨_,(false),vL_,H',⟨by have:=HK1.out;first|omega|exact Nat.le_refl _⟩,⟨by repeat (first|(with_reducible first|exact HI0.out|apply IsS64.alloc|apply IsS64.drewN|apply IsS64.drew|apply IsS64.set_0|apply IsS64.set_1|apply IsS64.set_2)|exact HI0.out)⟩,⟨by repeat (first|(with_reducible first|exact HK.out|apply KeepBut.set_|apply keep_drewN|apply keep_drew|apply keep_alloc)|exact HK.out)⟩,⟨by repeat (first|(with_reducible first|exact HB.out|apply bA|apply bN|apply bD|refine bS ?_ (IsS64.ge HI0.out))|exact HB.out)⟩⟩
   case rest =>
    clear HC3;(try clear c2);(try clear p2);(try clear c4);(try clear c4b0);(try clear hcz5_0 hcz5_1 hcz5_2 hfz5_0 hfz5_1 hfz5_2);(try clear p2);obtain ⟨kq,x15_2,rfl,HA,HJ2,HI0,HK,HB⟩:=hcut
    cases kq with
    | zero => exact absurd HA.out (by simp [spec_l5R_must.j1])
    | succ kj2 =>
     have H:=HA.out;clear HA;simp only [spec_l5R_must.j1] at H
     by_cases c6 : x15_2 = true
     ·subst c6
      rw [if_pos rfl] at H
      by_cases c7 : x1001_1 = (s0_0.size : Int)
      ·rw [if_pos c7] at H;have c7b0 : (x1001_1 == (s0_0.size : Int)) = true:=beq_iff_eq.mpr c7;have c7b1 : (x1001_1 != (s0_0.size : Int)) = false:=bne_eq_false_iff_eq.mpr c7;clear c7;simp only [Option.some.injEq,Prod.mk.injEq] at H;obtain ⟨rfl,rfl,rfl⟩:=H;obtain ⟨HGz8,hgz8⟩:=HI0.out;have hcz8_0:=cellS64_0 HGz8;have hcz8_1:=cellS64_1 HGz8;have hcz8_2:=cellS64_2 HGz8;have hfz8_0:=kF HGz8 0;have hfz8_1:=kF HGz8 1;have hfz8_2:=kF HGz8 2;clear HGz8 hgz8;go_wp2
       repeat (go_quiet (fail);try go_wp2)
       first|go_end0|((try simp only [Exit.inBlock,Exit.then]);refine bodyPost_ret (results_none rfl _ _ _) rfl ?_)
       exact ⟨eL_,by repeat (first|(with_reducible first|exact HI0.out|apply IsS64.alloc|apply IsS64.drewN|apply IsS64.drew|apply IsS64.set_0|apply IsS64.set_1|apply IsS64.set_2)|exact HI0.out),by repeat (first|(with_reducible first|exact HB.out|apply bA|apply bN|apply bD|refine bS ?_ (IsS64.ge HI0.out))|exact HB.out),by repeat (first|(with_reducible first|exact HK.out|apply KeepBut.set_|apply keep_drewN|apply keep_drew|apply keep_alloc)|exact HK.out)⟩
      ·rw [if_neg c7] at H;have c7b0 : (x1001_1 == (s0_0.size : Int)) = false:=beq_eq_false_iff_ne.mpr c7;have c7b1 : (x1001_1 != (s0_0.size : Int)) = true:=bne_iff_ne.mpr c7
       by_cases c9 : 0 ≤ x1001_1
       ·rw [if_pos c9] at H;have c9b0 : decide (0 ≤ x1001_1) = true:=decide_eq_true c9;clear c9
        by_cases c10 : x1001_1 < (s0_0.size : Int)
        ·rw [if_pos c10] at H;have c10b0 : decide (x1001_1 < (s0_0.size : Int)) = true:=decide_eq_true c10;clear c10
         by_cases c12 : 0 ≤ x4_1
         ·rw [if_pos c12] at H;have c12b0 : decide (0 ≤ x4_1) = true:=decide_eq_true c12;clear c12
          by_cases c13 : x4_1 < (a1.size : Int)
          ·rw [if_pos c13] at H;have c13b0 : decide (x4_1 < (a1.size : Int)) = true:=decide_eq_true c13;clear c13
           by_cases c15 : (bt s0_0 x1001_1) = (bt a1 x4_1)
           ·rw [if_pos c15] at H;have c15b0 : ((bt s0_0 x1001_1) == (bt a1 x4_1)) = true:=beq_iff_eq.mpr c15;have c15b1 : ((bt s0_0 x1001_1) != (bt a1 x4_1)) = false:=bne_eq_false_iff_eq.mpr c15;clear c15;have H':=Am H;clear H;obtain ⟨HGz16,hgz16⟩:=HI0.out;have hcz16_0:=cellS64_0 HGz16;have hcz16_1:=cellS64_1 HGz16;have hcz16_2:=cellS64_2 HGz16;have hfz16_0:=kF HGz16 0;have hfz16_1:=kF HGz16 1;have hfz16_2:=kF HGz16 2;clear HGz16 hgz16;have p11 : 0 ≤ (x1001_1 : Int):=of_decide_eq_true (by first|(with_reducible assumption)|assumption);have q11 : x1001_1 < (s0_0.size : Int):=of_decide_eq_true (by first|(with_reducible assumption)|assumption);have hx11:=bt_at s0_0 x1001_1;replace p11:=eq_true p11;replace q11:=eq_true q11;have p14 : 0 ≤ (x4_1 : Int):=of_decide_eq_true (by first|(with_reducible assumption)|assumption);have q14 : x4_1 < (a1.size : Int):=of_decide_eq_true (by first|(with_reducible assumption)|assumption);have hx14:=bt_at a1 x4_1;replace p14:=eq_true p14;replace q14:=eq_true q14;go_wp2
            repeat (go_quiet (fail);try go_wp2)
            go_roundg kj2
            case measure => have:=HK1.out;have:=HJ2.out;omega
            case rel => exact ⟨(wrap64 (x4_1 + 1)),(wrap64 (x1001_1 + 1)),(x1002_1),vL_,H',⟨by have:=HK1.out;have:=HJ2.out;omega⟩,⟨by repeat (first|(with_reducible first|exact HI0.out|apply IsS64.alloc|apply IsS64.drewN|apply IsS64.drew|apply IsS64.set_0|apply IsS64.set_1|apply IsS64.set_2)|exact HI0.out)⟩,⟨by repeat (first|(with_reducible first|exact HK.out|apply KeepBut.set_|apply keep_drewN|apply keep_drew|apply keep_alloc)|exact HK.out)⟩,⟨by repeat (first|(with_reducible first|exact HB.out|apply bA|apply bN|apply bD|refine bS ?_ (IsS64.ge HI0.out))|exact HB.out)⟩⟩
           ·rw [if_neg c15] at H;have c15b0 : ((bt s0_0 x1001_1) == (bt a1 x4_1)) = false:=beq_eq_false_iff_ne.mpr c15;have c15b1 : ((bt s0_0 x1001_1) != (bt a1 x4_1)) = true:=bne_iff_ne.mpr c15;simp only [Option.some.injEq,Prod.mk.injEq] at H;obtain ⟨rfl,rfl,rfl⟩:=H;obtain ⟨HGz17,hgz17⟩:=HI0.out;have hcz17_0:=cellS64_0 HGz17;have hcz17_1:=cellS64_1 HGz17;have hcz17_2:=cellS64_2 HGz17;have hfz17_0:=kF HGz17 0;have hfz17_1:=kF HGz17 1;have hfz17_2:=kF HGz17 2;clear HGz17 hgz17;have p11 : 0 ≤ (x1001_1 : Int):=of_decide_eq_true (by first|(with_reducible assumption)|assumption);have q11 : x1001_1 < (s0_0.size : Int):=of_decide_eq_true (by first|(with_reducible assumption)|assumption);have hx11:=bt_at s0_0 x1001_1;replace p11:=eq_true p11;replace q11:=eq_true q11;have p14 : 0 ≤ (x4_1 : Int):=of_decide_eq_true (by first|(with_reducible assumption)|assumption);have q14 : x4_1 < (a1.size : Int):=of_decide_eq_true (by first|(with_reducible assumption)|assumption);have hx14:=bt_at a1 x4_1;replace p14:=eq_true p14;replace q14:=eq_true q14;go_wp2
            repeat (go_quiet (fail);try go_wp2)
            first|go_end0|((try simp only [Exit.inBlock,Exit.then]);refine bodyPost_ret (results_none rfl _ _ _) rfl ?_)
            exact ⟨eL_,by repeat (first|(with_reducible first|exact HI0.out|apply IsS64.alloc|apply IsS64.drewN|apply IsS64.drew|apply IsS64.set_0|apply IsS64.set_1|apply IsS64.set_2)|exact HI0.out),by repeat (first|(with_reducible first|exact HB.out|apply bA|apply bN|apply bD|refine bS ?_ (IsS64.ge HI0.out))|exact HB.out),by repeat (first|(with_reducible first|exact HK.out|apply KeepBut.set_|apply keep_drewN|apply keep_drew|apply keep_alloc)|exact HK.out)⟩
          ·rw [if_neg c13] at H;exact absurd H (by simp)
         ·rw [if_neg c12] at H;exact absurd H (by simp)
        ·rw [if_neg c10] at H;exact absurd H (by simp)
       ·rw [if_neg c9] at H;exact absurd H (by simp)
     ·replace c6:=Bool.eq_false_iff.mpr c6;subst c6
      rw [if_neg (show ¬ (false = true) by decide)] at H;simp only [Option.some.injEq,Prod.mk.injEq] at H;obtain ⟨rfl,rfl,rfl⟩:=H;go_wp2
      repeat (go_quiet (fail);try go_wp2)
      first|go_end0|((try simp only [Exit.inBlock,Exit.then]);refine bodyPost_ret (results_none rfl _ _ _) rfl ?_)
      exact ⟨eL_,by repeat (first|(with_reducible first|exact HI0.out|apply IsS64.alloc|apply IsS64.drewN|apply IsS64.drew|apply IsS64.set_0|apply IsS64.set_1|apply IsS64.set_2)|exact HI0.out),by repeat (first|(with_reducible first|exact HB.out|apply bA|apply bN|apply bD|refine bS ?_ (IsS64.ge HI0.out))|exact HB.out),by repeat (first|(with_reducible first|exact HK.out|apply KeepBut.set_|apply keep_drewN|apply keep_drew|apply keep_alloc)|exact HK.out)⟩

end Go.Proofs.YtanjbdgmnecacaaDoor.PT
