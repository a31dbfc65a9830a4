-- Written by a program of this session (wip/print/myprint.py) over the kit's print, with contracts of its own; not a text of print.sh's.
import Derived.Test.YtgakkndbcilclaaPAx0
import Derived.Test.YtgakkndbcilclaaPAx1
import Derived.Test.YtgakkndbcilclaaPAx2
import Derived.Test.YtgakkndbcilclaaPAx10
import Derived.Test.YtgakkndbcilclaaPAx11
namespace Go.Proofs.Ytgakkndbcilclaa.PA
open Go.RowKit Go.Proofs.YtgakkndbcilclaaW.PrintWords Go.Proofs.YtgakkndbcilclaaW.PrintLast Go.Proofs.YtgakkndbcilclaaW.PrintMore
attribute [local go_sem] max2_int min2_int max_two min_two   -- for this text's walks alone
set_option linter.unusedVariables false
set_option linter.unusedSimpArgs false

/-! ### spec_StandAt: function 23 -/
mutual
def spec_StandAt.j0 : Nat → Int → Int → Bool → List (S71) → List (S75) → Int → Int → Int → Option (Int)
 | 0,_,_,_,_,_,_,_,_ => none
 | k + 1,x1,x2,x22,x306000,x306001,x306002,x306003,x306004 => if x22 = true then (some (-1)) else ((spec_l2total.f k x306000 x306001 x306002 x306003 x306004).bind fun t310 => (spec_StandAt.l0 k x1 x2 t310 x306000 x306001 x306002 x306003 x306004))
def spec_StandAt.l0 : Nat → Int → Int → Int → List (S71) → List (S75) → Int → Int → Int → Option (Int)
 | 0,_,_,_,_,_,_,_,_ => none
 | k + 1,x1,x2,x7,x306000,x306001,x306002,x306003,x306004 => if x2 > 0 then ((spec_l2rate.f k x306000 x306001 x306002 x306003 x306004 x1).bind fun t311 => ((spec_l2less.f x2 t311).bind fun t312 => (if (wrap64 (x1 + t312)) > x7 then (some (-1)) else (spec_StandAt.l0 k (wrap64 (x1 + t312)) t312 x7 x306000 x306001 x306002 x306003 x306004)))) else (some x1)
end
def spec_StandAt.f (k : Nat) (l0_0 : List (S71)) (l0_1 : List (S75)) (a0_2 : Int) (a0_3 : Int) (a0_4 : Int) (a1 : Int) (a2 : Int) : Option (Int):=(spec_ProfileOk.f k l0_0 l0_1 a0_2 a0_3 a0_4).bind fun t306 => (if t306 = 0 then ((spec_l2total.f k l0_0 l0_1 a0_2 a0_3 a0_4).bind fun t307 => ((spec_l1in.f a1 0 t307).bind fun t308 => (if t308 = true then ((spec_l1speeds.f a2 0).bind fun t309 => (spec_StandAt.j0 k a1 a2 (!t309) l0_0 l0_1 a0_2 a0_3 a0_4)) else (spec_StandAt.j0 k a1 a2 true l0_0 l0_1 a0_2 a0_3 a0_4)))) else (spec_StandAt.j0 k a1 a2 true l0_0 l0_1 a0_2 a0_3 a0_4))
theorem spec_StandAt.mono_l : ∀ k,(∀ y0 y1 y2 y3 y4 y5 y6 y7,LeO (spec_StandAt.j0 k y0 y1 y2 y3 y4 y5 y6 y7) (spec_StandAt.j0 (k + 1) y0 y1 y2 y3 y4 y5 y6 y7))∧(∀ y0 y1 y2 y3 y4 y5 y6 y7,LeO (spec_StandAt.l0 k y0 y1 y2 y3 y4 y5 y6 y7) (spec_StandAt.l0 (k + 1) y0 y1 y2 y3 y4 y5 y6 y7))
 | 0 => ⟨fun _ _ _ _ _ _ _ _ r h => by simp [spec_StandAt.j0] at h,fun _ _ _ _ _ _ _ _ r h => by simp [spec_StandAt.l0] at h⟩
 | k + 1 => by
  obtain ⟨ih0,ih1⟩:=spec_StandAt.mono_l k
  refine ⟨?_,?_⟩
  ·intro y0 y1 y2 y3 y4 y5 y6 y7
   unfold spec_StandAt.j0
   repeat' first
   | (with_reducible exact ih0 _ _ _ _ _ _ _ _)
   | (with_reducible exact ih1 _ _ _ _ _ _ _ _)
   | (with_reducible exact spec_ProfileOk.mono _ _ _ _ _ _)
   | (with_reducible exact spec_l2rate.mono _ _ _ _ _ _ _)
   | (with_reducible exact spec_l2total.mono _ _ _ _ _ _)
   | (with_reducible exact LeO.refl _)
   | (with_reducible exact LeO.none _)
   | (with_reducible refine LeO.ite ?_ ?_)
   | (with_reducible refine LeO.bind ?_ (fun _ => ?_))
   | exact ih0 _ _ _ _ _ _ _ _
   | exact ih1 _ _ _ _ _ _ _ _
   | exact spec_ProfileOk.mono _ _ _ _ _ _
   | exact spec_l2rate.mono _ _ _ _ _ _ _
   | exact spec_l2total.mono _ _ _ _ _ _
   | exact LeO.none _
   | refine LeO.ite ?_ ?_
   | refine LeO.bind ?_ (fun _ => ?_)
  ·intro y0 y1 y2 y3 y4 y5 y6 y7
   unfold spec_StandAt.l0
   repeat' first
   | (with_reducible exact ih0 _ _ _ _ _ _ _ _)
   | (with_reducible exact ih1 _ _ _ _ _ _ _ _)
   | (with_reducible exact spec_ProfileOk.mono _ _ _ _ _ _)
   | (with_reducible exact spec_l2rate.mono _ _ _ _ _ _ _)
   | (with_reducible exact spec_l2total.mono _ _ _ _ _ _)
   | (with_reducible exact LeO.refl _)
   | (with_reducible exact LeO.none _)
   | (with_reducible refine LeO.ite ?_ ?_)
   | (with_reducible refine LeO.bind ?_ (fun _ => ?_))
   | exact ih0 _ _ _ _ _ _ _ _
   | exact ih1 _ _ _ _ _ _ _ _
   | exact spec_ProfileOk.mono _ _ _ _ _ _
   | exact spec_l2rate.mono _ _ _ _ _ _ _
   | exact spec_l2total.mono _ _ _ _ _ _
   | exact LeO.none _
   | refine LeO.ite ?_ ?_
   | refine LeO.bind ?_ (fun _ => ?_)
theorem spec_StandAt.mono : ∀ a0 a1 a2 a3 a4 a5 a6 k,LeO (spec_StandAt.f k a0 a1 a2 a3 a4 a5 a6) (spec_StandAt.f (k + 1) a0 a1 a2 a3 a4 a5 a6):=by
 intro a0 a1 a2 a3 a4 a5 a6 k
 obtain ⟨ih0,ih1⟩:=spec_StandAt.mono_l k
 unfold spec_StandAt.f
 repeat' first
   | (with_reducible exact ih0 _ _ _ _ _ _ _ _)
   | (with_reducible exact ih1 _ _ _ _ _ _ _ _)
   | (with_reducible exact spec_ProfileOk.mono _ _ _ _ _ _)
   | (with_reducible exact spec_l2rate.mono _ _ _ _ _ _ _)
   | (with_reducible exact spec_l2total.mono _ _ _ _ _ _)
   | (with_reducible exact LeO.refl _)
   | (with_reducible exact LeO.none _)
   | (with_reducible refine LeO.ite ?_ ?_)
   | (with_reducible refine LeO.bind ?_ (fun _ => ?_))
   | exact ih0 _ _ _ _ _ _ _ _
   | exact ih1 _ _ _ _ _ _ _ _
   | exact spec_ProfileOk.mono _ _ _ _ _ _
   | exact spec_l2rate.mono _ _ _ _ _ _ _
   | exact spec_l2total.mono _ _ _ _ _ _
   | exact LeO.none _
   | refine LeO.ite ?_ ?_
   | refine LeO.bind ?_ (fun _ => ?_)
set_option maxHeartbeats 8000000 in
set_option maxRecDepth 100000 in
theorem spec_StandAt.calls (k : Nat) (A0_0 : Option Addr) (c0_0 : Nat) (l0_0 : List (S71)) (A0_1 : Option Addr) (c0_1 : Nat) (l0_1 : List (S75)) (a0_2 : Int) (a0_3 : Int) (a0_4 : Int) (a1 : Int) (a2 : Int) (r : Int) (w : World) (hr0_0 : Kd.C k71 w A0_0 l0_0.length l0_0) (hc0_0 : l0_0.length ≤ c0_0) (hr0_1 : Kd.C k75 w A0_1 l0_1.length l0_1) (hc0_1 : l0_1.length ≤ c0_1) (h : spec_StandAt.f k l0_0 l0_1 a0_2 a0_3 a0_4 a1 a2 = some r) :
  Calls Try.prog 23 #[.agg #[.slice A0_0 l0_0.length c0_0,.slice A0_1 l0_1.length c0_1,.int .i64 a0_2,.int .i64 a0_3,.int .i64 a0_4],.int .i64 a1,.int .i64 a2] w fun e w' => e = .returned (.int .i64 r)∧Below w.heap.size w w':=by
 have hu31:=Try.underlying31
 have HR0_0:=Am hr0_0
 have HC0_0:=Am hc0_0
 clear hr0_0 hc0_0
 have HR0_1:=Am hr0_1
 have HC0_1:=Am hc0_1
 clear hr0_1 hc0_1
 have HB:=Am (Below.refl w.heap.size w)
 have H : ((spec_ProfileOk.f k l0_0 l0_1 a0_2 a0_3 a0_4).bind fun t306 => (if t306 = 0 then ((spec_l2total.f k l0_0 l0_1 a0_2 a0_3 a0_4).bind fun t307 => ((spec_l1in.f a1 0 t307).bind fun t308 => (if t308 = true then ((spec_l1speeds.f a2 0).bind fun t309 => (spec_StandAt.j0 k a1 a2 (!t309) l0_0 l0_1 a0_2 a0_3 a0_4)) else (spec_StandAt.j0 k a1 a2 true l0_0 l0_1 a0_2 a0_3 a0_4)))) else (spec_StandAt.j0 k a1 a2 true l0_0 l0_1 a0_2 a0_3 a0_4))) = some r:=h
 clear h
 have HC4:=Am H
 clear H
 go_enter Try.func23,Try.ntmps23
 go_upto_region 1 with (first|((with_reducible refine gate_dst (N:=3) rfl ?_);refine box_event ?hg (N:=3) ?hd (cs:=#[.slice A0_0 l0_0.length c0_0,.slice A0_1 l0_1.length c0_1,.int .i64 a0_2,.int .i64 a0_3,.int .i64 a0_4]) (t:=31) ?hr ?_;(case hd => rfl);(case hg => rfl);(case hr => first|(go_simp;done)|(go_simp;rfl));intro gb305 hg w5 hbox hb;have n0_:=Am (below_step (by repeat (first|(with_reducible first|exact HB.out|apply bA|apply bN|apply bD)|exact HB.out)) hb);have n1_:=Am (hbox);have n2_:=Am ((by rw [hg];exact (below_size (by repeat (first|(with_reducible first|exact HB.out|apply bA|apply bN|apply bD)|exact HB.out))) : w.heap.size ≤ gb305));have n3_:=Am ((by rw [hg];exact (below_size (by repeat (first|(with_reducible first|exact HB.out|apply bA|apply bN|apply bD)|exact HB.out))) : w.heap.size ≤ gb305));clear HB;have HB:=n0_;have BK305:=n1_;have GW305:=n2_;have GE305:=n3_;clear n0_ n1_ n2_ n3_;clear hb hbox hg))
 (try simp only [Act.put,List.setIfInBounds_toArray,List.set_cons_zero,List.set_cons_succ])
 go_cut [22] (fun v22 wc => ∃ (kq : Nat) (x22_3 : Bool),v22 = .bool x22_3∧As (spec_StandAt.j0 kq a1 a2 x22_3 l0_0 l0_1 a0_2 a0_3 a0_4 = some r)∧As (kq ≤ k)∧As (wc.heap[gb305]? = some (.cells #[(.slice A0_0 l0_0.length c0_0),(.slice A0_1 l0_1.length c0_1),.int .i64 a0_2,.int .i64 a0_3,.int .i64 a0_4] 31 (0,0)))∧As (Below w.heap.size w wc))
 case first =>
  have H:=HC4.out
  clear HC4
  replace H:=Option.bind_eq_some_iff.mp H
  obtain ⟨t306,A60,H⟩:=H
  replace H : (if t306 = 0 then ((spec_l2total.f k l0_0 l0_1 a0_2 a0_3 a0_4).bind fun t307 => ((spec_l1in.f a1 0 t307).bind fun t308 => (if t308 = true then ((spec_l1speeds.f a2 0).bind fun t309 => (spec_StandAt.j0 k a1 a2 (!t309) l0_0 l0_1 a0_2 a0_3 a0_4)) else (spec_StandAt.j0 k a1 a2 true l0_0 l0_1 a0_2 a0_3 a0_4)))) else (spec_StandAt.j0 k a1 a2 true l0_0 l0_1 a0_2 a0_3 a0_4)) = some r:=H
  have A6:=Am A60
  clear A60
  by_cases c7 : t306 = 0
  ·rw [if_pos c7] at H
   have c7b0 : (t306 == 0) = true:=beq_iff_eq.mpr c7
   have c7b1 : (t306 != 0) = false:=bne_eq_false_iff_eq.mpr c7
   clear c7
   (first|rw [c7b0]|(simp only [i64_w,i32_w];rw [c7b0])|skip)
   replace H:=Option.bind_eq_some_iff.mp H
   obtain ⟨t307,A80,H⟩:=H
   replace H : ((spec_l1in.f a1 0 t307).bind fun t308 => (if t308 = true then ((spec_l1speeds.f a2 0).bind fun t309 => (spec_StandAt.j0 k a1 a2 (!t309) l0_0 l0_1 a0_2 a0_3 a0_4)) else (spec_StandAt.j0 k a1 a2 true l0_0 l0_1 a0_2 a0_3 a0_4))) = some r:=H
   have A8:=Am A80
   clear A80
   replace H:=Option.bind_eq_some_iff.mp H
   obtain ⟨t308,A90,H⟩:=H
   replace H : (if t308 = true then ((spec_l1speeds.f a2 0).bind fun t309 => (spec_StandAt.j0 k a1 a2 (!t309) l0_0 l0_1 a0_2 a0_3 a0_4)) else (spec_StandAt.j0 k a1 a2 true l0_0 l0_1 a0_2 a0_3 a0_4)) = some r:=H
   have A9:=Am A90
   clear A90
   by_cases c10 : t308 = true
   ·subst c10
    have H1 : ((spec_l1speeds.f a2 0).bind fun t309 => (spec_StandAt.j0 k a1 a2 (!t309) l0_0 l0_1 a0_2 a0_3 a0_4)) = some r:=by rw [if_pos rfl] at H;exact H
    clear H
    have H:=H1
    clear H1
    replace H:=Option.bind_eq_some_iff.mp H
    obtain ⟨t309,A110,H⟩:=H
    replace H : (spec_StandAt.j0 k a1 a2 (!t309) l0_0 l0_1 a0_2 a0_3 a0_4) = some r:=H
    have A11:=Am A110
    clear A110
    have H':=Am H
    clear H
    have hcz12_0 : w5.cell? ⟨gb305,0,none⟩ = some (.slice A0_0 l0_0.length c0_0):=(kC BK305.out 0).trans rfl
    have hcz12_1 : w5.cell? ⟨gb305,1,none⟩ = some (.slice A0_1 l0_1.length c0_1):=(kC BK305.out 1).trans rfl
    have hcz12_2 : w5.cell? ⟨gb305,2,none⟩ = some (.int .i64 a0_2):=(kC BK305.out 2).trans rfl
    have hcz12_3 : w5.cell? ⟨gb305,3,none⟩ = some (.int .i64 a0_3):=(kC BK305.out 3).trans rfl
    have hcz12_4 : w5.cell? ⟨gb305,4,none⟩ = some (.int .i64 a0_4):=(kC BK305.out 4).trans rfl
    have hfz12_0:=kF BK305.out 0
    have hfz12_1:=kF BK305.out 1
    have hfz12_2:=kF BK305.out 2
    have hfz12_3:=kF BK305.out 3
    have hfz12_4:=kF BK305.out 4
    go_wp2_with (first|((with_reducible refine gate_callee (f:=15) rfl ?_);refine goesL_ (some 9) rfl rfl Try.func15 (by kernel_rfl) rfl #[.agg #[.slice A0_0 l0_0.length c0_0,.slice A0_1 l0_1.length c0_1,.int .i64 a0_2,.int .i64 a0_3,.int .i64 a0_4]] rfl (by (try simp only [List.map_toArray,List.map_cons,List.map_nil]);first|done|rfl|(simp only [List.length_drop,List.length_take];rfl)) ?_;(with_reducible refine (spec_ProfileOk.calls k _ _ l0_0 _ _ l0_1 a0_2 a0_3 a0_4 t306 _ ?side1 ?side2 ?side3 ?side4 A6.out).mono ?_);(case side1 => repeat (first|exact (Kd.C_below HR0_0.out HB.out)|(with_reducible refine Kd.C_alloc ?_ _)|(with_reducible refine Kd.C_drewN ?_ _)|(with_reducible refine Kd.C_drew ?_)));(case side2 => exact HC0_0.out);(case side3 => repeat (first|exact (Kd.C_below HR0_1.out HB.out)|(with_reducible refine Kd.C_alloc ?_ _)|(with_reducible refine Kd.C_drewN ?_ _)|(with_reducible refine Kd.C_drew ?_)));(case side4 => exact HC0_1.out);rintro e w13 ⟨rfl,hb⟩;refine ⟨_,rfl,?_⟩;have n0_:=Am (blk_below (g:=gb305) (o:=.cells #[.slice A0_0 l0_0.length c0_0,.slice A0_1 l0_1.length c0_1,.int .i64 a0_2,.int .i64 a0_3,.int .i64 a0_4] 31 (0,0)) (by (with_reducible repeat (first|refine kN ?_ _|refine kD ?_|refine kA ?_ _));exact BK305.out) hb);have n1_:=Am (below_step (by repeat (first|(with_reducible first|exact HB.out|apply bA|apply bN|apply bD|refine bS ?_ GE305.out)|exact HB.out)) hb);clear BK305;clear HB;have BK305:=n0_;have HB:=n1_;clear n0_ n1_;(try clear hb);(try clear hb2);(try clear hk);(try clear hi);have hcz14_0 : w13.cell? ⟨gb305,0,none⟩ = some (.slice A0_0 l0_0.length c0_0):=(kC BK305.out 0).trans rfl;have hcz14_1 : w13.cell? ⟨gb305,1,none⟩ = some (.slice A0_1 l0_1.length c0_1):=(kC BK305.out 1).trans rfl;have hcz14_2 : w13.cell? ⟨gb305,2,none⟩ = some (.int .i64 a0_2):=(kC BK305.out 2).trans rfl;have hcz14_3 : w13.cell? ⟨gb305,3,none⟩ = some (.int .i64 a0_3):=(kC BK305.out 3).trans rfl;have hcz14_4 : w13.cell? ⟨gb305,4,none⟩ = some (.int .i64 a0_4):=(kC BK305.out 4).trans rfl;have hfz14_0:=kF BK305.out 0;have hfz14_1:=kF BK305.out 1;have hfz14_2:=kF BK305.out 2;have hfz14_3:=kF BK305.out 3;have hfz14_4:=kF BK305.out 4)|(go_at_call 59;(with_reducible refine (spec_l2total.calls k _ _ l0_0 _ _ l0_1 a0_2 a0_3 a0_4 t307 _ ?side1 ?side2 ?side3 ?side4 A8.out).mono ?_);(case side1 => repeat (first|exact (Kd.C_below HR0_0.out HB.out)|(with_reducible refine Kd.C_alloc ?_ _)|(with_reducible refine Kd.C_drewN ?_ _)|(with_reducible refine Kd.C_drew ?_)));(case side2 => exact HC0_0.out);(case side3 => repeat (first|exact (Kd.C_below HR0_1.out HB.out)|(with_reducible refine Kd.C_alloc ?_ _)|(with_reducible refine Kd.C_drewN ?_ _)|(with_reducible refine Kd.C_drew ?_)));(case side4 => exact HC0_1.out);rintro e w15 ⟨rfl,hb⟩;have n0_:=Am (blk_below (g:=gb305) (o:=.cells #[.slice A0_0 l0_0.length c0_0,.slice A0_1 l0_1.length c0_1,.int .i64 a0_2,.int .i64 a0_3,.int .i64 a0_4] 31 (0,0)) (by (with_reducible repeat (first|refine kN ?_ _|refine kD ?_|refine kA ?_ _));exact BK305.out) hb);have n1_:=Am (below_step (by repeat (first|(with_reducible first|exact HB.out|apply bA|apply bN|apply bD|refine bS ?_ GE305.out)|exact HB.out)) hb);clear BK305;clear HB;have BK305:=n0_;have HB:=n1_;clear n0_ n1_;(try clear hb);(try clear hb2);(try clear hk);(try clear hi))|(go_at_call 57;(with_reducible refine (spec_l1in.calls a1 0 t307 true _ A9.out).mono ?_);rintro e w' ⟨rfl,⟨nd,rfl⟩⟩)|(go_at_call 72;(with_reducible refine (spec_l1speeds.calls a2 0 t309 _ A11.out).mono ?_);rintro e w' ⟨rfl,⟨nd,rfl⟩⟩))
    go_meet
    case rel => exact ⟨_,(!t309),(by first|rfl|(simp;done)|(simp [*];done)),H',⟨by first|omega|exact Nat.le_refl _⟩,⟨by (with_reducible repeat (first|refine kN ?_ _|refine kD ?_|refine kA ?_ _));exact BK305.out⟩,⟨by repeat (first|(with_reducible first|exact HB.out|apply bA|apply bN|apply bD|refine bS ?_ GE305.out)|exact HB.out)⟩⟩
   ·replace c10:=Bool.eq_false_iff.mpr c10
    subst c10
    have H1 : (spec_StandAt.j0 k a1 a2 true l0_0 l0_1 a0_2 a0_3 a0_4) = some r:=by rw [if_neg (show ¬ (false = true) by decide)] at H;exact H
    clear H
    have H:=H1
    clear H1
    have H':=Am H
    clear H
    have hcz16_0 : w5.cell? ⟨gb305,0,none⟩ = some (.slice A0_0 l0_0.length c0_0):=(kC BK305.out 0).trans rfl
    have hcz16_1 : w5.cell? ⟨gb305,1,none⟩ = some (.slice A0_1 l0_1.length c0_1):=(kC BK305.out 1).trans rfl
    have hcz16_2 : w5.cell? ⟨gb305,2,none⟩ = some (.int .i64 a0_2):=(kC BK305.out 2).trans rfl
    have hcz16_3 : w5.cell? ⟨gb305,3,none⟩ = some (.int .i64 a0_3):=(kC BK305.out 3).trans rfl
    have hcz16_4 : w5.cell? ⟨gb305,4,none⟩ = some (.int .i64 a0_4):=(kC BK305.out 4).trans rfl
    have hfz16_0:=kF BK305.out 0
    have hfz16_1:=kF BK305.out 1
    have hfz16_2:=kF BK305.out 2
    have hfz16_3:=kF BK305.out 3
    have hfz16_4:=kF BK305.out 4
    go_wp2_with (first|((with_reducible refine gate_callee (f:=15) rfl ?_);refine goesL_ (some 9) rfl rfl Try.func15 (by kernel_rfl) rfl #[.agg #[.slice A0_0 l0_0.length c0_0,.slice A0_1 l0_1.length c0_1,.int .i64 a0_2,.int .i64 a0_3,.int .i64 a0_4]] rfl (by (try simp only [List.map_toArray,List.map_cons,List.map_nil]);first|done|rfl|(simp only [List.length_drop,List.length_take];rfl)) ?_;(with_reducible refine (spec_ProfileOk.calls k _ _ l0_0 _ _ l0_1 a0_2 a0_3 a0_4 t306 _ ?side1 ?side2 ?side3 ?side4 A6.out).mono ?_);(case side1 => repeat (first|exact (Kd.C_below HR0_0.out HB.out)|(with_reducible refine Kd.C_alloc ?_ _)|(with_reducible refine Kd.C_drewN ?_ _)|(with_reducible refine Kd.C_drew ?_)));(case side2 => exact HC0_0.out);(case side3 => repeat (first|exact (Kd.C_below HR0_1.out HB.out)|(with_reducible refine Kd.C_alloc ?_ _)|(with_reducible refine Kd.C_drewN ?_ _)|(with_reducible refine Kd.C_drew ?_)));(case side4 => exact HC0_1.out);rintro e w17 ⟨rfl,hb⟩;refine ⟨_,rfl,?_⟩;have n0_:=Am (blk_below (g:=gb305) (o:=.cells #[.slice A0_0 l0_0.length c0_0,.slice A0_1 l0_1.length c0_1,.int .i64 a0_2,.int .i64 a0_3,.int .i64 a0_4] 31 (0,0)) (by (with_reducible repeat (first|refine kN ?_ _|refine kD ?_|refine kA ?_ _));exact BK305.out) hb);have n1_:=Am (below_step (by repeat (first|(with_reducible first|exact HB.out|apply bA|apply bN|apply bD|refine bS ?_ GE305.out)|exact HB.out)) hb);clear BK305;clear HB;have BK305:=n0_;have HB:=n1_;clear n0_ n1_;(try clear hb);(try clear hb2);(try clear hk);(try clear hi);have hcz18_0 : w17.cell? ⟨gb305,0,none⟩ = some (.slice A0_0 l0_0.length c0_0):=(kC BK305.out 0).trans rfl;have hcz18_1 : w17.cell? ⟨gb305,1,none⟩ = some (.slice A0_1 l0_1.length c0_1):=(kC BK305.out 1).trans rfl;have hcz18_2 : w17.cell? ⟨gb305,2,none⟩ = some (.int .i64 a0_2):=(kC BK305.out 2).trans rfl;have hcz18_3 : w17.cell? ⟨gb305,3,none⟩ = some (.int .i64 a0_3):=(kC BK305.out 3).trans rfl;have hcz18_4 : w17.cell? ⟨gb305,4,none⟩ = some (.int .i64 a0_4):=(kC BK305.out 4).trans rfl;have hfz18_0:=kF BK305.out 0;have hfz18_1:=kF BK305.out 1;have hfz18_2:=kF BK305.out 2;have hfz18_3:=kF BK305.out 3;have hfz18_4:=kF BK305.out 4)|(go_at_call 59;(with_reducible refine (spec_l2total.calls k _ _ l0_0 _ _ l0_1 a0_2 a0_3 a0_4 t307 _ ?side1 ?side2 ?side3 ?side4 A8.out).mono ?_);(case side1 => repeat (first|exact (Kd.C_below HR0_0.out HB.out)|(with_reducible refine Kd.C_alloc ?_ _)|(with_reducible refine Kd.C_drewN ?_ _)|(with_reducible refine Kd.C_drew ?_)));(case side2 => exact HC0_0.out);(case side3 => repeat (first|exact (Kd.C_below HR0_1.out HB.out)|(with_reducible refine Kd.C_alloc ?_ _)|(with_reducible refine Kd.C_drewN ?_ _)|(with_reducible refine Kd.C_drew ?_)));(case side4 => exact HC0_1.out);rintro e w19 ⟨rfl,hb⟩;have n0_:=Am (blk_below (g:=gb305) (o:=.cells #[.slice A0_0 l0_0.length c0_0,.slice A0_1 l0_1.length c0_1,.int .i64 a0_2,.int .i64 a0_3,.int .i64 a0_4] 31 (0,0)) (by (with_reducible repeat (first|refine kN ?_ _|refine kD ?_|refine kA ?_ _));exact BK305.out) hb);have n1_:=Am (below_step (by repeat (first|(with_reducible first|exact HB.out|apply bA|apply bN|apply bD|refine bS ?_ GE305.out)|exact HB.out)) hb);clear BK305;clear HB;have BK305:=n0_;have HB:=n1_;clear n0_ n1_;(try clear hb);(try clear hb2);(try clear hk);(try clear hi))|(go_at_call 57;(with_reducible refine (spec_l1in.calls a1 0 t307 false _ A9.out).mono ?_);rintro e w' ⟨rfl,⟨nd,rfl⟩⟩))
    go_meet
    case rel => exact ⟨_,(true),(by first|rfl|(simp;done)|(simp [*];done)),H',⟨by first|omega|exact Nat.le_refl _⟩,⟨by (with_reducible repeat (first|refine kN ?_ _|refine kD ?_|refine kA ?_ _));exact BK305.out⟩,⟨by repeat (first|(with_reducible first|exact HB.out|apply bA|apply bN|apply bD|refine bS ?_ GE305.out)|exact HB.out)⟩⟩
  ·rw [if_neg c7] at H
   have c7b0 : (t306 == 0) = false:=beq_eq_false_iff_ne.mpr c7
   have c7b1 : (t306 != 0) = true:=bne_iff_ne.mpr c7
   (first|rw [c7b0]|(simp only [i64_w,i32_w];rw [c7b0])|skip)
   have H':=Am H
   clear H
   have hcz20_0 : w5.cell? ⟨gb305,0,none⟩ = some (.slice A0_0 l0_0.length c0_0):=(kC BK305.out 0).trans rfl
   have hcz20_1 : w5.cell? ⟨gb305,1,none⟩ = some (.slice A0_1 l0_1.length c0_1):=(kC BK305.out 1).trans rfl
   have hcz20_2 : w5.cell? ⟨gb305,2,none⟩ = some (.int .i64 a0_2):=(kC BK305.out 2).trans rfl
   have hcz20_3 : w5.cell? ⟨gb305,3,none⟩ = some (.int .i64 a0_3):=(kC BK305.out 3).trans rfl
   have hcz20_4 : w5.cell? ⟨gb305,4,none⟩ = some (.int .i64 a0_4):=(kC BK305.out 4).trans rfl
   have hfz20_0:=kF BK305.out 0
   have hfz20_1:=kF BK305.out 1
   have hfz20_2:=kF BK305.out 2
   have hfz20_3:=kF BK305.out 3
   have hfz20_4:=kF BK305.out 4
   go_wp2_with (first|((with_reducible refine gate_callee (f:=15) rfl ?_);refine goesL_ (some 9) rfl rfl Try.func15 (by kernel_rfl) rfl #[.agg #[.slice A0_0 l0_0.length c0_0,.slice A0_1 l0_1.length c0_1,.int .i64 a0_2,.int .i64 a0_3,.int .i64 a0_4]] rfl (by (try simp only [List.map_toArray,List.map_cons,List.map_nil]);first|done|rfl|(simp only [List.length_drop,List.length_take];rfl)) ?_;(with_reducible refine (spec_ProfileOk.calls k _ _ l0_0 _ _ l0_1 a0_2 a0_3 a0_4 t306 _ ?side1 ?side2 ?side3 ?side4 A6.out).mono ?_);(case side1 => repeat (first|exact (Kd.C_below HR0_0.out HB.out)|(with_reducible refine Kd.C_alloc ?_ _)|(with_reducible refine Kd.C_drewN ?_ _)|(with_reducible refine Kd.C_drew ?_)));(case side2 => exact HC0_0.out);(case side3 => repeat (first|exact (Kd.C_below HR0_1.out HB.out)|(with_reducible refine Kd.C_alloc ?_ _)|(with_reducible refine Kd.C_drewN ?_ _)|(with_reducible refine Kd.C_drew ?_)));(case side4 => exact HC0_1.out);rintro e w21 ⟨rfl,hb⟩;refine ⟨_,rfl,?_⟩;have n0_:=Am (blk_below (g:=gb305) (o:=.cells #[.slice A0_0 l0_0.length c0_0,.slice A0_1 l0_1.length c0_1,.int .i64 a0_2,.int .i64 a0_3,.int .i64 a0_4] 31 (0,0)) (by (with_reducible repeat (first|refine kN ?_ _|refine kD ?_|refine kA ?_ _));exact BK305.out) hb);have n1_:=Am (below_step (by repeat (first|(with_reducible first|exact HB.out|apply bA|apply bN|apply bD|refine bS ?_ GE305.out)|exact HB.out)) hb);clear BK305;clear HB;have BK305:=n0_;have HB:=n1_;clear n0_ n1_;(try clear hb);(try clear hb2);(try clear hk);(try clear hi)))
   go_meet
   case rel => exact ⟨_,(true),(by first|rfl|(simp;done)|(simp [*];done)),H',⟨by first|omega|exact Nat.le_refl _⟩,⟨by (with_reducible repeat (first|refine kN ?_ _|refine kD ?_|refine kA ?_ _));exact BK305.out⟩,⟨by repeat (first|(with_reducible first|exact HB.out|apply bA|apply bN|apply bD|refine bS ?_ GE305.out)|exact HB.out)⟩⟩
 case rest =>
  clear HC4
  try clear c1
  try clear c2
  try clear p2
  try clear c7
  try clear c7b0
  try clear c7b1
  try clear c10
  try clear c15
  try clear hcz12_0
  try clear hcz12_1
  try clear hcz12_2
  try clear hcz12_3
  try clear hcz12_4
  try clear hcz14_0
  try clear hcz14_1
  try clear hcz14_2
  try clear hcz14_3
  try clear hcz14_4
  try clear hcz16_0
  try clear hcz16_1
  try clear hcz16_2
  try clear hcz16_3
  try clear hcz16_4
  try clear hcz18_0
  try clear hcz18_1
  try clear hcz18_2
  try clear hcz18_3
  try clear hcz18_4
  try clear hcz20_0
  try clear hcz20_1
  try clear hcz20_2
  try clear hcz20_3
  try clear hcz20_4
  try clear hfz12_0
  try clear hfz12_1
  try clear hfz12_2
  try clear hfz12_3
  try clear hfz12_4
  try clear hfz14_0
  try clear hfz14_1
  try clear hfz14_2
  try clear hfz14_3
  try clear hfz14_4
  try clear hfz16_0
  try clear hfz16_1
  try clear hfz16_2
  try clear hfz16_3
  try clear hfz16_4
  try clear hfz18_0
  try clear hfz18_1
  try clear hfz18_2
  try clear hfz18_3
  try clear hfz18_4
  try clear hfz20_0
  try clear hfz20_1
  try clear hfz20_2
  try clear hfz20_3
  try clear hfz20_4
  obtain ⟨kq,x22_3,rfl,HA,HJ3,BK305,HB⟩:=hcut
  cases kq with
  | zero => exact absurd HA.out (by simp [spec_StandAt.j0])
  | succ kj3 =>
   have H:=HA.out
   clear HA
   simp only [spec_StandAt.j0] at H
   by_cases c22 : x22_3 = true
   ·subst c22
    have H1 : (some (-1)) = some r:=by rw [if_pos rfl] at H;exact H
    clear H
    have H:=H1
    clear H1
    obtain rfl:=Option.some.inj H
    go_wp2
    go_ret
    exact ⟨by first|rfl|(simp [errW_none,errW_some] <;> rfl)|(simp [*,errW_none,errW_some] <;> rfl),by repeat (first|(with_reducible first|exact HB.out|apply bA|apply bN|apply bD|refine bS ?_ GE305.out)|exact HB.out)⟩
   ·replace c22:=Bool.eq_false_iff.mpr c22
    subst c22
    have H1 : ((spec_l2total.f kj3 l0_0 l0_1 a0_2 a0_3 a0_4).bind fun t310 => (spec_StandAt.l0 kj3 a1 a2 t310 l0_0 l0_1 a0_2 a0_3 a0_4)) = some r:=by rw [if_neg (show ¬ (false = true) by decide)] at H;exact H
    clear H
    have H:=H1
    clear H1
    replace H:=Option.bind_eq_some_iff.mp H
    obtain ⟨t310,A230,H⟩:=H
    replace H : (spec_StandAt.l0 kj3 a1 a2 t310 l0_0 l0_1 a0_2 a0_3 a0_4) = some r:=H
    have A23:=Am A230
    clear A230
    have H':=Am H
    clear H
    have hcz24_0 : wc.cell? ⟨gb305,0,none⟩ = some (.slice A0_0 l0_0.length c0_0):=(kC BK305.out 0).trans rfl
    have hcz24_1 : wc.cell? ⟨gb305,1,none⟩ = some (.slice A0_1 l0_1.length c0_1):=(kC BK305.out 1).trans rfl
    have hcz24_2 : wc.cell? ⟨gb305,2,none⟩ = some (.int .i64 a0_2):=(kC BK305.out 2).trans rfl
    have hcz24_3 : wc.cell? ⟨gb305,3,none⟩ = some (.int .i64 a0_3):=(kC BK305.out 3).trans rfl
    have hcz24_4 : wc.cell? ⟨gb305,4,none⟩ = some (.int .i64 a0_4):=(kC BK305.out 4).trans rfl
    have hfz24_0:=kF BK305.out 0
    have hfz24_1:=kF BK305.out 1
    have hfz24_2:=kF BK305.out 2
    have hfz24_3:=kF BK305.out 3
    have hfz24_4:=kF BK305.out 4
    go_wp2_with (first|((with_reducible refine gate_callee (f:=59) rfl ?_);refine goesL_ (some 24) rfl rfl Try.func59 (by kernel_rfl) rfl #[.agg #[.slice A0_0 l0_0.length c0_0,.slice A0_1 l0_1.length c0_1,.int .i64 a0_2,.int .i64 a0_3,.int .i64 a0_4]] rfl (by (try simp only [List.map_toArray,List.map_cons,List.map_nil]);first|done|rfl|(simp only [List.length_drop,List.length_take];rfl)) ?_;(with_reducible refine (spec_l2total.calls kj3 _ _ l0_0 _ _ l0_1 a0_2 a0_3 a0_4 t310 _ ?side1 ?side2 ?side3 ?side4 A23.out).mono ?_);(case side1 => repeat (first|exact (Kd.C_below HR0_0.out HB.out)|(with_reducible refine Kd.C_alloc ?_ _)|(with_reducible refine Kd.C_drewN ?_ _)|(with_reducible refine Kd.C_drew ?_)));(case side2 => exact HC0_0.out);(case side3 => repeat (first|exact (Kd.C_below HR0_1.out HB.out)|(with_reducible refine Kd.C_alloc ?_ _)|(with_reducible refine Kd.C_drewN ?_ _)|(with_reducible refine Kd.C_drew ?_)));(case side4 => exact HC0_1.out);rintro e w25 ⟨rfl,hb⟩;refine ⟨_,rfl,?_⟩;have n0_:=Am (blk_below (g:=gb305) (o:=.cells #[.slice A0_0 l0_0.length c0_0,.slice A0_1 l0_1.length c0_1,.int .i64 a0_2,.int .i64 a0_3,.int .i64 a0_4] 31 (0,0)) (by (with_reducible repeat (first|refine kN ?_ _|refine kD ?_|refine kA ?_ _));exact BK305.out) hb);have n1_:=Am (below_step (by repeat (first|(with_reducible first|exact HB.out|apply bA|apply bN|apply bD|refine bS ?_ GE305.out)|exact HB.out)) hb);clear BK305;clear HB;have BK305:=n0_;have HB:=n1_;clear n0_ n1_;(try clear hb);(try clear hb2);(try clear hk);(try clear hi)))
    go_loopg [1,2] kj3 (fun kq v1 v2 w' => ∃ (x1_2 : Int) (x2_2 : Int),v1 = .int .i64 x1_2∧v2 = .int .i64 x2_2∧As (spec_StandAt.l0 kq x1_2 x2_2 t310 l0_0 l0_1 a0_2 a0_3 a0_4 = some r)∧As (kq ≤ kj3)∧As (w'.heap[gb305]? = some (.cells #[(.slice A0_0 l0_0.length c0_0),(.slice A0_1 l0_1.length c0_1),.int .i64 a0_2,.int .i64 a0_3,.int .i64 a0_4] 31 (0,0)))∧As (Below w.heap.size w w'))
    case atStart => exact ⟨(a1),(a2),(by first|rfl|(simp;done)|(simp [*];done)),(by first|rfl|(simp;done)|(simp [*];done)),H',⟨Nat.le_refl _⟩,⟨by (with_reducible repeat (first|refine kN ?_ _|refine kD ?_|refine kA ?_ _));exact BK305.out⟩,⟨by repeat (first|(with_reducible first|exact HB.out|apply bA|apply bN|apply bD|refine bS ?_ GE305.out)|exact HB.out)⟩⟩
    case round =>
     clear H'
     try clear c1
     try clear c2
     try clear p2
     try clear c5
     try clear c7
     try clear c7b0
     try clear c7b1
     try clear c10
     try clear c15
     try clear c22
     try clear c23
     try clear hcz12_0
     try clear hcz12_1
     try clear hcz12_2
     try clear hcz12_3
     try clear hcz12_4
     try clear hcz14_0
     try clear hcz14_1
     try clear hcz14_2
     try clear hcz14_3
     try clear hcz14_4
     try clear hcz16_0
     try clear hcz16_1
     try clear hcz16_2
     try clear hcz16_3
     try clear hcz16_4
     try clear hcz18_0
     try clear hcz18_1
     try clear hcz18_2
     try clear hcz18_3
     try clear hcz18_4
     try clear hcz20_0
     try clear hcz20_1
     try clear hcz20_2
     try clear hcz20_3
     try clear hcz20_4
     try clear hcz24_0
     try clear hcz24_1
     try clear hcz24_2
     try clear hcz24_3
     try clear hcz24_4
     try clear hfz12_0
     try clear hfz12_1
     try clear hfz12_2
     try clear hfz12_3
     try clear hfz12_4
     try clear hfz14_0
     try clear hfz14_1
     try clear hfz14_2
     try clear hfz14_3
     try clear hfz14_4
     try clear hfz16_0
     try clear hfz16_1
     try clear hfz16_2
     try clear hfz16_3
     try clear hfz16_4
     try clear hfz18_0
     try clear hfz18_1
     try clear hfz18_2
     try clear hfz18_3
     try clear hfz18_4
     try clear hfz20_0
     try clear hfz20_1
     try clear hfz20_2
     try clear hfz20_3
     try clear hfz20_4
     try clear hfz24_0
     try clear hfz24_1
     try clear hfz24_2
     try clear hfz24_3
     try clear hfz24_4
     try clear p2
     obtain ⟨x1_2,x2_2,rfl,rfl,HA,HK2,BK305,HB⟩:=hrel
     cases gk with
     | zero => exact absurd HA.out (by simp [spec_StandAt.l0])
     | succ k2 =>
      have H:=HA.out
      clear HA
      simp only [spec_StandAt.l0] at H
      by_cases c26 : x2_2 > 0
      ·rw [if_pos c26] at H
       have c26b0 : decide (0 < x2_2) = true:=decide_eq_true c26
       clear c26
       replace H:=Option.bind_eq_some_iff.mp H
       obtain ⟨t311,A270,H⟩:=H
       replace H : ((spec_l2less.f x2_2 t311).bind fun t312 => (if (wrap64 (x1_2 + t312)) > t310 then (some (-1)) else (spec_StandAt.l0 k2 (wrap64 (x1_2 + t312)) t312 t310 l0_0 l0_1 a0_2 a0_3 a0_4))) = some r:=H
       have A27:=Am A270
       clear A270
       replace H:=Option.bind_eq_some_iff.mp H
       obtain ⟨t312,A280,H⟩:=H
       replace H : (if (wrap64 (x1_2 + t312)) > t310 then (some (-1)) else (spec_StandAt.l0 k2 (wrap64 (x1_2 + t312)) t312 t310 l0_0 l0_1 a0_2 a0_3 a0_4)) = some r:=H
       have A28:=Am A280
       clear A280
       by_cases c29 : (wrap64 (x1_2 + t312)) > t310
       ·rw [if_pos c29] at H
        have c29b0 : decide (t310 < (wrap64 (x1_2 + t312))) = true:=decide_eq_true c29
        clear c29
        obtain rfl:=Option.some.inj H
        have hcz30_0 : wr.cell? ⟨gb305,0,none⟩ = some (.slice A0_0 l0_0.length c0_0):=(kC BK305.out 0).trans rfl
        have hcz30_1 : wr.cell? ⟨gb305,1,none⟩ = some (.slice A0_1 l0_1.length c0_1):=(kC BK305.out 1).trans rfl
        have hcz30_2 : wr.cell? ⟨gb305,2,none⟩ = some (.int .i64 a0_2):=(kC BK305.out 2).trans rfl
        have hcz30_3 : wr.cell? ⟨gb305,3,none⟩ = some (.int .i64 a0_3):=(kC BK305.out 3).trans rfl
        have hcz30_4 : wr.cell? ⟨gb305,4,none⟩ = some (.int .i64 a0_4):=(kC BK305.out 4).trans rfl
        have hfz30_0:=kF BK305.out 0
        have hfz30_1:=kF BK305.out 1
        have hfz30_2:=kF BK305.out 2
        have hfz30_3:=kF BK305.out 3
        have hfz30_4:=kF BK305.out 4
        go_wp2_with (first|((with_reducible refine gate_callee (f:=70) rfl ?_);refine goesL_ (some 30) rfl rfl Try.func70 (by kernel_rfl) rfl #[.agg #[.slice A0_0 l0_0.length c0_0,.slice A0_1 l0_1.length c0_1,.int .i64 a0_2,.int .i64 a0_3,.int .i64 a0_4],.int .i64 x1_2] rfl (by (try simp only [List.map_toArray,List.map_cons,List.map_nil]);first|done|rfl|(simp only [List.length_drop,List.length_take];rfl)) ?_;(with_reducible refine (spec_l2rate.calls k2 _ _ l0_0 _ _ l0_1 a0_2 a0_3 a0_4 x1_2 t311 _ ?side1 ?side2 ?side3 ?side4 A27.out).mono ?_);(case side1 => repeat (first|exact (Kd.C_below HR0_0.out HB.out)|(with_reducible refine Kd.C_alloc ?_ _)|(with_reducible refine Kd.C_drewN ?_ _)|(with_reducible refine Kd.C_drew ?_)));(case side2 => exact HC0_0.out);(case side3 => repeat (first|exact (Kd.C_below HR0_1.out HB.out)|(with_reducible refine Kd.C_alloc ?_ _)|(with_reducible refine Kd.C_drewN ?_ _)|(with_reducible refine Kd.C_drew ?_)));(case side4 => exact HC0_1.out);rintro e w31 ⟨rfl,hb⟩;refine ⟨_,rfl,?_⟩;have n0_:=Am (blk_below (g:=gb305) (o:=.cells #[.slice A0_0 l0_0.length c0_0,.slice A0_1 l0_1.length c0_1,.int .i64 a0_2,.int .i64 a0_3,.int .i64 a0_4] 31 (0,0)) (by (with_reducible repeat (first|refine kN ?_ _|refine kD ?_|refine kA ?_ _));exact BK305.out) hb);have n1_:=Am (below_step (by repeat (first|(with_reducible first|exact HB.out|apply bA|apply bN|apply bD|refine bS ?_ GE305.out)|exact HB.out)) hb);clear BK305;clear HB;have BK305:=n0_;have HB:=n1_;clear n0_ n1_;(try clear hb);(try clear hb2);(try clear hk);(try clear hi))|((with_reducible refine gate_callee (f:=73) rfl ?_);refine goesL_ (some 31) rfl rfl Try.func73 (by kernel_rfl) rfl #[.int .i64 x2_2,.int .i64 t311] rfl (by (try simp only [List.map_toArray,List.map_cons,List.map_nil]);first|done|rfl|(simp only [List.length_drop,List.length_take];rfl)) ?_;(with_reducible refine (spec_l2less.calls x2_2 t311 t312 _ A28.out).mono ?_);rintro e w' ⟨rfl,⟨nd,rfl⟩⟩;refine ⟨_,rfl,?_⟩))
        go_ret
        exact ⟨by first|rfl|(simp [errW_none,errW_some] <;> rfl)|(simp [*,errW_none,errW_some] <;> rfl),by repeat (first|(with_reducible first|exact HB.out|apply bA|apply bN|apply bD|refine bS ?_ GE305.out)|exact HB.out)⟩
       ·rw [if_neg c29] at H
        have c29b0 : decide (t310 < (wrap64 (x1_2 + t312))) = false:=decide_eq_false c29
        clear c29
        have H':=Am H
        clear H
        have hcz32_0 : wr.cell? ⟨gb305,0,none⟩ = some (.slice A0_0 l0_0.length c0_0):=(kC BK305.out 0).trans rfl
        have hcz32_1 : wr.cell? ⟨gb305,1,none⟩ = some (.slice A0_1 l0_1.length c0_1):=(kC BK305.out 1).trans rfl
        have hcz32_2 : wr.cell? ⟨gb305,2,none⟩ = some (.int .i64 a0_2):=(kC BK305.out 2).trans rfl
        have hcz32_3 : wr.cell? ⟨gb305,3,none⟩ = some (.int .i64 a0_3):=(kC BK305.out 3).trans rfl
        have hcz32_4 : wr.cell? ⟨gb305,4,none⟩ = some (.int .i64 a0_4):=(kC BK305.out 4).trans rfl
        have hfz32_0:=kF BK305.out 0
        have hfz32_1:=kF BK305.out 1
        have hfz32_2:=kF BK305.out 2
        have hfz32_3:=kF BK305.out 3
        have hfz32_4:=kF BK305.out 4
        go_wp2_with (first|((with_reducible refine gate_callee (f:=70) rfl ?_);refine goesL_ (some 30) rfl rfl Try.func70 (by kernel_rfl) rfl #[.agg #[.slice A0_0 l0_0.length c0_0,.slice A0_1 l0_1.length c0_1,.int .i64 a0_2,.int .i64 a0_3,.int .i64 a0_4],.int .i64 x1_2] rfl (by (try simp only [List.map_toArray,List.map_cons,List.map_nil]);first|done|rfl|(simp only [List.length_drop,List.length_take];rfl)) ?_;(with_reducible refine (spec_l2rate.calls k2 _ _ l0_0 _ _ l0_1 a0_2 a0_3 a0_4 x1_2 t311 _ ?side1 ?side2 ?side3 ?side4 A27.out).mono ?_);(case side1 => repeat (first|exact (Kd.C_below HR0_0.out HB.out)|(with_reducible refine Kd.C_alloc ?_ _)|(with_reducible refine Kd.C_drewN ?_ _)|(with_reducible refine Kd.C_drew ?_)));(case side2 => exact HC0_0.out);(case side3 => repeat (first|exact (Kd.C_below HR0_1.out HB.out)|(with_reducible refine Kd.C_alloc ?_ _)|(with_reducible refine Kd.C_drewN ?_ _)|(with_reducible refine Kd.C_drew ?_)));(case side4 => exact HC0_1.out);rintro e w33 ⟨rfl,hb⟩;refine ⟨_,rfl,?_⟩;have n0_:=Am (blk_below (g:=gb305) (o:=.cells #[.slice A0_0 l0_0.length c0_0,.slice A0_1 l0_1.length c0_1,.int .i64 a0_2,.int .i64 a0_3,.int .i64 a0_4] 31 (0,0)) (by (with_reducible repeat (first|refine kN ?_ _|refine kD ?_|refine kA ?_ _));exact BK305.out) hb);have n1_:=Am (below_step (by repeat (first|(with_reducible first|exact HB.out|apply bA|apply bN|apply bD|refine bS ?_ GE305.out)|exact HB.out)) hb);clear BK305;clear HB;have BK305:=n0_;have HB:=n1_;clear n0_ n1_;(try clear hb);(try clear hb2);(try clear hk);(try clear hi))|((with_reducible refine gate_callee (f:=73) rfl ?_);refine goesL_ (some 31) rfl rfl Try.func73 (by kernel_rfl) rfl #[.int .i64 x2_2,.int .i64 t311] rfl (by (try simp only [List.map_toArray,List.map_cons,List.map_nil]);first|done|rfl|(simp only [List.length_drop,List.length_take];rfl)) ?_;(with_reducible refine (spec_l2less.calls x2_2 t311 t312 _ A28.out).mono ?_);rintro e w' ⟨rfl,⟨nd,rfl⟩⟩;refine ⟨_,rfl,?_⟩))
        go_roundg k2
        case measure => have:=HJ3.out;have:=HK2.out;omega
        case rel => exact ⟨(wrap64 (x1_2 + t312)),(t312),(by first|rfl|(simp;done)|(simp [*];done)),(by first|rfl|(simp;done)|(simp [*];done)),H',⟨by have:=HJ3.out;have:=HK2.out;omega⟩,⟨by (with_reducible repeat (first|refine kN ?_ _|refine kD ?_|refine kA ?_ _));exact BK305.out⟩,⟨by repeat (first|(with_reducible first|exact HB.out|apply bA|apply bN|apply bD|refine bS ?_ GE305.out)|exact HB.out)⟩⟩
      ·rw [if_neg c26] at H
       have c26b0 : decide (0 < x2_2) = false:=decide_eq_false c26
       clear c26
       obtain rfl:=Option.some.inj H
       go_wp2
       go_ret
       exact ⟨by first|rfl|(simp [errW_none,errW_some] <;> rfl)|(simp [*,errW_none,errW_some] <;> rfl),by repeat (first|(with_reducible first|exact HB.out|apply bA|apply bN|apply bD|refine bS ?_ GE305.out)|exact HB.out)⟩

/-! ### impl_speed: function 74 -/
def impl_speed.f (a0 : Int) : Option (Bool):=if a0 ≥ 0 then (some (decide (a0 ≤ 10000))) else (some false)
set_option maxHeartbeats 8000000 in
set_option maxRecDepth 100000 in
theorem impl_speed.calls (a0 : Int) (r : Bool) (w : World) (h : impl_speed.f a0 = some r) :
  Calls Try.prog 74 #[.int .i64 a0] w fun e w' => e = .returned (.bool r)∧Drawn0 w w':=by
 have H : (if a0 ≥ 0 then (some (decide (a0 ≤ 10000))) else (some false)) = some r:=h
 clear h
 by_cases c2 : a0 ≥ 0
 ·rw [if_pos c2] at H
  have c2b0 : decide (0 ≤ a0) = true:=decide_eq_true c2
  clear c2
  obtain rfl:=Option.some.inj H
  go_enter Try.func74,Try.ntmps74
  go_wp2
  go_ret
  exact ⟨by first|rfl|(simp;done)|(simp [*];done),by repeat (first|exact Drawn0.refl _|apply Drawn0.step)⟩
 ·rw [if_neg c2] at H
  have c2b0 : decide (0 ≤ a0) = false:=decide_eq_false c2
  clear c2
  obtain rfl:=Option.some.inj H
  go_enter Try.func74,Try.ntmps74
  go_wp2
  go_ret
  exact ⟨by first|rfl|(simp;done)|(simp [*];done),by repeat (first|exact Drawn0.refl _|apply Drawn0.step)⟩

end Go.Proofs.Ytgakkndbcilclaa.PA
