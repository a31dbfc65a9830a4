-- Written by a program of this session (wip/print/myprint.py) over the kit's print, with contracts of its own; not a text of print.sh's.
import Derived.Test.YtgakkndbcilclaaPAx0
import Derived.Test.YtgakkndbcilclaaPAx30
import Derived.Test.YtgakkndbcilclaaPAx36
namespace Go.Proofs.Ytgakkndbcilclaa.PA
open Go.RowKit Go.Proofs.YtgakkndbcilclaaW.PrintWords Go.Proofs.YtgakkndbcilclaaW.PrintLast Go.Proofs.YtgakkndbcilclaaW.PrintMore
attribute [local go_sem] max2_int min2_int max_two min_two   -- for this text's walks alone
set_option linter.unusedVariables false
set_option linter.unusedSimpArgs false

/-! ### spec_Curve: function 38 -/
mutual
def spec_Curve.j0 : Nat → Int → Bool → List (S71) → List (S75) → Int → Int → Int → Option ((List (S98)))
 | 0,_,_,_,_,_,_,_ => none
 | k + 1,x1,x20,x450000,x450001,x450002,x450003,x450004 => if x20 = true then (some ([] : List (S98))) else (spec_Curve.l0 k x1 ([] : List (S98)) 0 x450000 x450001 x450002 x450003 x450004)
def spec_Curve.l0 : Nat → Int → List (S98) → Int → List (S71) → List (S75) → Int → Int → Int → Option ((List (S98)))
 | 0,_,_,_,_,_,_,_,_ => none
 | k + 1,x1,x5,x6,x450000,x450001,x450002,x450003,x450004 => if x6 ≤ x450003 then ((spec_l3most.f k x450000 x450001 x450002 x450003 x450004 x6).bind fun t451 => (if x5.length < 8796093022208 then (spec_Curve.l0 k x1 (x5 ++ [(⟨x6,t451⟩ : S98)]) (wrap64 (x6 + x1)) x450000 x450001 x450002 x450003 x450004) else (none))) else (some x5)
end
def spec_Curve.f (k : Nat) (l0_0 : List (S71)) (l0_1 : List (S75)) (a0_2 : Int) (a0_3 : Int) (a0_4 : Int) (a1 : Int) : Option ((List (S98))):=(spec_l3good.f k l0_0 l0_1 a0_2 a0_3 a0_4 0 0).bind fun t450 => (if t450 = true then (if a1 < 1 then (spec_Curve.j0 k a1 true l0_0 l0_1 a0_2 a0_3 a0_4) else (if a1 = 0 then (none) else (spec_Curve.j0 k a1 (decide ((wrap64 (Int.tdiv a0_3 a1)) > 200)) l0_0 l0_1 a0_2 a0_3 a0_4))) else (spec_Curve.j0 k a1 true l0_0 l0_1 a0_2 a0_3 a0_4))
theorem spec_Curve.mono_l : ∀ k,(∀ y0 y1 y2 y3 y4 y5 y6,LeO (spec_Curve.j0 k y0 y1 y2 y3 y4 y5 y6) (spec_Curve.j0 (k + 1) y0 y1 y2 y3 y4 y5 y6))∧(∀ y0 y1 y2 y3 y4 y5 y6 y7,LeO (spec_Curve.l0 k y0 y1 y2 y3 y4 y5 y6 y7) (spec_Curve.l0 (k + 1) y0 y1 y2 y3 y4 y5 y6 y7))
 | 0 => ⟨fun _ _ _ _ _ _ _ r h => by simp [spec_Curve.j0] at h,fun _ _ _ _ _ _ _ _ r h => by simp [spec_Curve.l0] at h⟩
 | k + 1 => by
  obtain ⟨ih0,ih1⟩:=spec_Curve.mono_l k
  refine ⟨?_,?_⟩
  ·intro y0 y1 y2 y3 y4 y5 y6
   unfold spec_Curve.j0
   repeat' first
   | (with_reducible exact ih0 _ _ _ _ _ _ _)
   | (with_reducible exact ih1 _ _ _ _ _ _ _ _)
   | (with_reducible exact spec_l3good.mono _ _ _ _ _ _ _ _)
   | (with_reducible exact spec_l3most.mono _ _ _ _ _ _ _)
   | (with_reducible exact LeO.refl _)
   | (with_reducible exact LeO.none _)
   | (with_reducible refine LeO.ite ?_ ?_)
   | (with_reducible refine LeO.bind ?_ (fun _ => ?_))
   | exact ih0 _ _ _ _ _ _ _
   | exact ih1 _ _ _ _ _ _ _ _
   | exact spec_l3good.mono _ _ _ _ _ _ _ _
   | exact spec_l3most.mono _ _ _ _ _ _ _
   | exact LeO.none _
   | refine LeO.ite ?_ ?_
   | refine LeO.bind ?_ (fun _ => ?_)
  ·intro y0 y1 y2 y3 y4 y5 y6 y7
   unfold spec_Curve.l0
   repeat' first
   | (with_reducible exact ih0 _ _ _ _ _ _ _)
   | (with_reducible exact ih1 _ _ _ _ _ _ _ _)
   | (with_reducible exact spec_l3good.mono _ _ _ _ _ _ _ _)
   | (with_reducible exact spec_l3most.mono _ _ _ _ _ _ _)
   | (with_reducible exact LeO.refl _)
   | (with_reducible exact LeO.none _)
   | (with_reducible refine LeO.ite ?_ ?_)
   | (with_reducible refine LeO.bind ?_ (fun _ => ?_))
   | exact ih0 _ _ _ _ _ _ _
   | exact ih1 _ _ _ _ _ _ _ _
   | exact spec_l3good.mono _ _ _ _ _ _ _ _
   | exact spec_l3most.mono _ _ _ _ _ _ _
   | exact LeO.none _
   | refine LeO.ite ?_ ?_
   | refine LeO.bind ?_ (fun _ => ?_)
theorem spec_Curve.mono : ∀ a0 a1 a2 a3 a4 a5 k,LeO (spec_Curve.f k a0 a1 a2 a3 a4 a5) (spec_Curve.f (k + 1) a0 a1 a2 a3 a4 a5):=by
 intro a0 a1 a2 a3 a4 a5 k
 obtain ⟨ih0,ih1⟩:=spec_Curve.mono_l k
 unfold spec_Curve.f
 repeat' first
   | (with_reducible exact ih0 _ _ _ _ _ _ _)
   | (with_reducible exact ih1 _ _ _ _ _ _ _ _)
   | (with_reducible exact spec_l3good.mono _ _ _ _ _ _ _ _)
   | (with_reducible exact spec_l3most.mono _ _ _ _ _ _ _)
   | (with_reducible exact LeO.refl _)
   | (with_reducible exact LeO.none _)
   | (with_reducible refine LeO.ite ?_ ?_)
   | (with_reducible refine LeO.bind ?_ (fun _ => ?_))
   | exact ih0 _ _ _ _ _ _ _
   | exact ih1 _ _ _ _ _ _ _ _
   | exact spec_l3good.mono _ _ _ _ _ _ _ _
   | exact spec_l3most.mono _ _ _ _ _ _ _
   | exact LeO.none _
   | refine LeO.ite ?_ ?_
   | refine LeO.bind ?_ (fun _ => ?_)
set_option maxHeartbeats 8000000 in
set_option maxRecDepth 100000 in
theorem spec_Curve.calls (k : Nat) (A0_0 : Option Addr) (c0_0 : Nat) (l0_0 : List (S71)) (A0_1 : Option Addr) (c0_1 : Nat) (l0_1 : List (S75)) (a0_2 : Int) (a0_3 : Int) (a0_4 : Int) (a1 : Int) (r : List (S98)) (w : World) (hr0_0 : Kd.C k71 w A0_0 l0_0.length l0_0) (hc0_0 : l0_0.length ≤ c0_0) (hr0_1 : Kd.C k75 w A0_1 l0_1.length l0_1) (hc0_1 : l0_1.length ≤ c0_1) (h : spec_Curve.f k l0_0 l0_1 a0_2 a0_3 a0_4 a1 = some r) :
  Calls Try.prog 38 #[.agg #[.slice A0_0 l0_0.length c0_0,.slice A0_1 l0_1.length c0_1,.int .i64 a0_2,.int .i64 a0_3,.int .i64 a0_4],.int .i64 a1] w fun e w' => ∃ v0_ : Value,e = .returned (v0_)∧Kd.R k98 98 w' w.heap.size (fun _ => True) v0_ r∧Below w.heap.size w w':=by
 have hu31:=Try.underlying31
 have hu98:=Try.underlying98
 have HR0_0:=Am hr0_0
 have HC0_0:=Am hc0_0
 clear hr0_0 hc0_0
 have HR0_1:=Am hr0_1
 have HC0_1:=Am hc0_1
 clear hr0_1 hc0_1
 have HB:=Am (Below.refl w.heap.size w)
 have H : ((spec_l3good.f k l0_0 l0_1 a0_2 a0_3 a0_4 0 0).bind fun t450 => (if t450 = true then (if a1 < 1 then (spec_Curve.j0 k a1 true l0_0 l0_1 a0_2 a0_3 a0_4) else (if a1 = 0 then (none) else (spec_Curve.j0 k a1 (decide ((wrap64 (Int.tdiv a0_3 a1)) > 200)) l0_0 l0_1 a0_2 a0_3 a0_4))) else (spec_Curve.j0 k a1 true l0_0 l0_1 a0_2 a0_3 a0_4))) = some r:=h
 clear h
 have HC3:=Am H
 clear H
 go_enter Try.func38,Try.ntmps38
 go_upto_region 1 with (first|((with_reducible refine gate_dst (N:=2) rfl ?_);refine box_event ?hg (N:=2) ?hd (cs:=#[.slice A0_0 l0_0.length c0_0,.slice A0_1 l0_1.length c0_1,.int .i64 a0_2,.int .i64 a0_3,.int .i64 a0_4]) (t:=31) ?hr ?_;(case hd => rfl);(case hg => rfl);(case hr => first|(go_simp;done)|(go_simp;rfl));intro gb449 hg w4 hbox hb;have n0_:=Am (below_step (by repeat (first|(with_reducible first|exact HB.out|apply bA|apply bN|apply bD)|exact HB.out)) hb);have n1_:=Am (hbox);have n2_:=Am ((by rw [hg];exact (below_size (by repeat (first|(with_reducible first|exact HB.out|apply bA|apply bN|apply bD)|exact HB.out))) : w.heap.size ≤ gb449));have n3_:=Am ((by rw [hg];exact (below_size (by repeat (first|(with_reducible first|exact HB.out|apply bA|apply bN|apply bD)|exact HB.out))) : w.heap.size ≤ gb449));clear HB;have HB:=n0_;have BK449:=n1_;have GW449:=n2_;have GE449:=n3_;clear n0_ n1_ n2_ n3_;clear hb hbox hg))
 (try simp only [Act.put,List.setIfInBounds_toArray,List.set_cons_zero,List.set_cons_succ])
 go_cut [20] (fun v20 wc => ∃ (kq : Nat) (x20_2 : Bool),v20 = .bool x20_2∧As (spec_Curve.j0 kq a1 x20_2 l0_0 l0_1 a0_2 a0_3 a0_4 = some r)∧As (kq ≤ k)∧As (wc.heap[gb449]? = some (.cells #[(.slice A0_0 l0_0.length c0_0),(.slice A0_1 l0_1.length c0_1),.int .i64 a0_2,.int .i64 a0_3,.int .i64 a0_4] 31 (0,0)))∧As (Below w.heap.size w wc))
 case first =>
  have H:=HC3.out
  clear HC3
  replace H:=Option.bind_eq_some_iff.mp H
  obtain ⟨t450,A50,H⟩:=H
  replace H : (if t450 = true then (if a1 < 1 then (spec_Curve.j0 k a1 true l0_0 l0_1 a0_2 a0_3 a0_4) else (if a1 = 0 then (none) else (spec_Curve.j0 k a1 (decide ((wrap64 (Int.tdiv a0_3 a1)) > 200)) l0_0 l0_1 a0_2 a0_3 a0_4))) else (spec_Curve.j0 k a1 true l0_0 l0_1 a0_2 a0_3 a0_4)) = some r:=H
  have A5:=Am A50
  clear A50
  by_cases c6 : t450 = true
  ·subst c6
   have H1 : (if a1 < 1 then (spec_Curve.j0 k a1 true l0_0 l0_1 a0_2 a0_3 a0_4) else (if a1 = 0 then (none) else (spec_Curve.j0 k a1 (decide ((wrap64 (Int.tdiv a0_3 a1)) > 200)) l0_0 l0_1 a0_2 a0_3 a0_4))) = some r:=by rw [if_pos rfl] at H;exact H
   clear H
   have H:=H1
   clear H1
   by_cases c7 : a1 < 1
   ·rw [if_pos c7] at H
    have c7b0 : decide (a1 < 1) = true:=decide_eq_true c7
    clear c7
    (first|rw [c7b0]|(simp only [i64_w,i32_w];rw [c7b0])|skip)
    have H':=Am H
    clear H
    have hcz8_0 : w4.cell? ⟨gb449,0,none⟩ = some (.slice A0_0 l0_0.length c0_0):=(kC BK449.out 0).trans rfl
    have hcz8_1 : w4.cell? ⟨gb449,1,none⟩ = some (.slice A0_1 l0_1.length c0_1):=(kC BK449.out 1).trans rfl
    have hcz8_2 : w4.cell? ⟨gb449,2,none⟩ = some (.int .i64 a0_2):=(kC BK449.out 2).trans rfl
    have hcz8_3 : w4.cell? ⟨gb449,3,none⟩ = some (.int .i64 a0_3):=(kC BK449.out 3).trans rfl
    have hcz8_4 : w4.cell? ⟨gb449,4,none⟩ = some (.int .i64 a0_4):=(kC BK449.out 4).trans rfl
    have hfz8_0:=kF BK449.out 0
    have hfz8_1:=kF BK449.out 1
    have hfz8_2:=kF BK449.out 2
    have hfz8_3:=kF BK449.out 3
    have hfz8_4:=kF BK449.out 4
    go_wp2_with (first|((with_reducible refine gate_callee (f:=76) rfl ?_);refine goesL_ (some 8) rfl rfl Try.func76 (by kernel_rfl) rfl #[.agg #[.slice A0_0 l0_0.length c0_0,.slice A0_1 l0_1.length c0_1,.int .i64 a0_2,.int .i64 a0_3,.int .i64 a0_4],.int .i64 0,.int .i64 0] rfl (by (try simp only [List.map_toArray,List.map_cons,List.map_nil]);first|done|rfl|(simp only [List.length_drop,List.length_take];rfl)) ?_;(with_reducible refine (spec_l3good.calls k _ _ l0_0 _ _ l0_1 a0_2 a0_3 a0_4 0 0 true _ ?side1 ?side2 ?side3 ?side4 A5.out).mono ?_);(case side1 => repeat (first|exact (Kd.C_below HR0_0.out HB.out)|(with_reducible refine Kd.C_alloc ?_ _)|(with_reducible refine Kd.C_drewN ?_ _)|(with_reducible refine Kd.C_drew ?_)));(case side2 => exact HC0_0.out);(case side3 => repeat (first|exact (Kd.C_below HR0_1.out HB.out)|(with_reducible refine Kd.C_alloc ?_ _)|(with_reducible refine Kd.C_drewN ?_ _)|(with_reducible refine Kd.C_drew ?_)));(case side4 => exact HC0_1.out);rintro e w9 ⟨rfl,hb⟩;refine ⟨_,rfl,?_⟩;have n0_:=Am (blk_below (g:=gb449) (o:=.cells #[.slice A0_0 l0_0.length c0_0,.slice A0_1 l0_1.length c0_1,.int .i64 a0_2,.int .i64 a0_3,.int .i64 a0_4] 31 (0,0)) (by (with_reducible repeat (first|refine kN ?_ _|refine kD ?_|refine kA ?_ _));exact BK449.out) hb);have n1_:=Am (below_step (by repeat (first|(with_reducible first|exact HB.out|apply bA|apply bN|apply bD|refine bS ?_ GE449.out)|exact HB.out)) hb);clear BK449;clear HB;have BK449:=n0_;have HB:=n1_;clear n0_ n1_;(try clear hb);(try clear hb2);(try clear hk);(try clear hi)))
    go_meet
    case rel => exact ⟨_,(true),(by first|rfl|(simp;done)|(simp [*];done)),H',⟨by first|omega|exact Nat.le_refl _⟩,⟨by (with_reducible repeat (first|refine kN ?_ _|refine kD ?_|refine kA ?_ _));exact BK449.out⟩,⟨by repeat (first|(with_reducible first|exact HB.out|apply bA|apply bN|apply bD|refine bS ?_ GE449.out)|exact HB.out)⟩⟩
   ·rw [if_neg c7] at H
    have c7b0 : decide (a1 < 1) = false:=decide_eq_false c7
    clear c7
    (first|rw [c7b0]|(simp only [i64_w,i32_w];rw [c7b0])|skip)
    by_cases c10 : a1 = 0
    ·rw [if_pos c10] at H
     exact absurd H (by simp)
    ·rw [if_neg c10] at H
     have c10b0 : (a1 == 0) = false:=beq_eq_false_iff_ne.mpr c10
     have c10b1 : (a1 != 0) = true:=bne_iff_ne.mpr c10
     have H':=Am H
     clear H
     have hcz11_0 : w4.cell? ⟨gb449,0,none⟩ = some (.slice A0_0 l0_0.length c0_0):=(kC BK449.out 0).trans rfl
     have hcz11_1 : w4.cell? ⟨gb449,1,none⟩ = some (.slice A0_1 l0_1.length c0_1):=(kC BK449.out 1).trans rfl
     have hcz11_2 : w4.cell? ⟨gb449,2,none⟩ = some (.int .i64 a0_2):=(kC BK449.out 2).trans rfl
     have hcz11_3 : w4.cell? ⟨gb449,3,none⟩ = some (.int .i64 a0_3):=(kC BK449.out 3).trans rfl
     have hcz11_4 : w4.cell? ⟨gb449,4,none⟩ = some (.int .i64 a0_4):=(kC BK449.out 4).trans rfl
     have hfz11_0:=kF BK449.out 0
     have hfz11_1:=kF BK449.out 1
     have hfz11_2:=kF BK449.out 2
     have hfz11_3:=kF BK449.out 3
     have hfz11_4:=kF BK449.out 4
     go_wp2_with (first|((with_reducible refine gate_callee (f:=76) rfl ?_);refine goesL_ (some 8) rfl rfl Try.func76 (by kernel_rfl) rfl #[.agg #[.slice A0_0 l0_0.length c0_0,.slice A0_1 l0_1.length c0_1,.int .i64 a0_2,.int .i64 a0_3,.int .i64 a0_4],.int .i64 0,.int .i64 0] rfl (by (try simp only [List.map_toArray,List.map_cons,List.map_nil]);first|done|rfl|(simp only [List.length_drop,List.length_take];rfl)) ?_;(with_reducible refine (spec_l3good.calls k _ _ l0_0 _ _ l0_1 a0_2 a0_3 a0_4 0 0 true _ ?side1 ?side2 ?side3 ?side4 A5.out).mono ?_);(case side1 => repeat (first|exact (Kd.C_below HR0_0.out HB.out)|(with_reducible refine Kd.C_alloc ?_ _)|(with_reducible refine Kd.C_drewN ?_ _)|(with_reducible refine Kd.C_drew ?_)));(case side2 => exact HC0_0.out);(case side3 => repeat (first|exact (Kd.C_below HR0_1.out HB.out)|(with_reducible refine Kd.C_alloc ?_ _)|(with_reducible refine Kd.C_drewN ?_ _)|(with_reducible refine Kd.C_drew ?_)));(case side4 => exact HC0_1.out);rintro e w12 ⟨rfl,hb⟩;refine ⟨_,rfl,?_⟩;have n0_:=Am (blk_below (g:=gb449) (o:=.cells #[.slice A0_0 l0_0.length c0_0,.slice A0_1 l0_1.length c0_1,.int .i64 a0_2,.int .i64 a0_3,.int .i64 a0_4] 31 (0,0)) (by (with_reducible repeat (first|refine kN ?_ _|refine kD ?_|refine kA ?_ _));exact BK449.out) hb);have n1_:=Am (below_step (by repeat (first|(with_reducible first|exact HB.out|apply bA|apply bN|apply bD|refine bS ?_ GE449.out)|exact HB.out)) hb);clear BK449;clear HB;have BK449:=n0_;have HB:=n1_;clear n0_ n1_;(try clear hb);(try clear hb2);(try clear hk);(try clear hi);have hcz13_0 : w12.cell? ⟨gb449,0,none⟩ = some (.slice A0_0 l0_0.length c0_0):=(kC BK449.out 0).trans rfl;have hcz13_1 : w12.cell? ⟨gb449,1,none⟩ = some (.slice A0_1 l0_1.length c0_1):=(kC BK449.out 1).trans rfl;have hcz13_2 : w12.cell? ⟨gb449,2,none⟩ = some (.int .i64 a0_2):=(kC BK449.out 2).trans rfl;have hcz13_3 : w12.cell? ⟨gb449,3,none⟩ = some (.int .i64 a0_3):=(kC BK449.out 3).trans rfl;have hcz13_4 : w12.cell? ⟨gb449,4,none⟩ = some (.int .i64 a0_4):=(kC BK449.out 4).trans rfl;have hfz13_0:=kF BK449.out 0;have hfz13_1:=kF BK449.out 1;have hfz13_2:=kF BK449.out 2;have hfz13_3:=kF BK449.out 3;have hfz13_4:=kF BK449.out 4))
     go_meet
     case rel => exact ⟨_,(decide ((wrap64 (Int.tdiv a0_3 a1)) > 200)),(by first|rfl|(simp;done)|(simp [*];done)),H',⟨by first|omega|exact Nat.le_refl _⟩,⟨by (with_reducible repeat (first|refine kN ?_ _|refine kD ?_|refine kA ?_ _));exact BK449.out⟩,⟨by repeat (first|(with_reducible first|exact HB.out|apply bA|apply bN|apply bD|refine bS ?_ GE449.out)|exact HB.out)⟩⟩
  ·replace c6:=Bool.eq_false_iff.mpr c6
   subst c6
   have H1 : (spec_Curve.j0 k a1 true l0_0 l0_1 a0_2 a0_3 a0_4) = some r:=by rw [if_neg (show ¬ (false = true) by decide)] at H;exact H
   clear H
   have H:=H1
   clear H1
   have H':=Am H
   clear H
   have hcz14_0 : w4.cell? ⟨gb449,0,none⟩ = some (.slice A0_0 l0_0.length c0_0):=(kC BK449.out 0).trans rfl
   have hcz14_1 : w4.cell? ⟨gb449,1,none⟩ = some (.slice A0_1 l0_1.length c0_1):=(kC BK449.out 1).trans rfl
   have hcz14_2 : w4.cell? ⟨gb449,2,none⟩ = some (.int .i64 a0_2):=(kC BK449.out 2).trans rfl
   have hcz14_3 : w4.cell? ⟨gb449,3,none⟩ = some (.int .i64 a0_3):=(kC BK449.out 3).trans rfl
   have hcz14_4 : w4.cell? ⟨gb449,4,none⟩ = some (.int .i64 a0_4):=(kC BK449.out 4).trans rfl
   have hfz14_0:=kF BK449.out 0
   have hfz14_1:=kF BK449.out 1
   have hfz14_2:=kF BK449.out 2
   have hfz14_3:=kF BK449.out 3
   have hfz14_4:=kF BK449.out 4
   go_wp2_with (first|((with_reducible refine gate_callee (f:=76) rfl ?_);refine goesL_ (some 8) rfl rfl Try.func76 (by kernel_rfl) rfl #[.agg #[.slice A0_0 l0_0.length c0_0,.slice A0_1 l0_1.length c0_1,.int .i64 a0_2,.int .i64 a0_3,.int .i64 a0_4],.int .i64 0,.int .i64 0] rfl (by (try simp only [List.map_toArray,List.map_cons,List.map_nil]);first|done|rfl|(simp only [List.length_drop,List.length_take];rfl)) ?_;(with_reducible refine (spec_l3good.calls k _ _ l0_0 _ _ l0_1 a0_2 a0_3 a0_4 0 0 false _ ?side1 ?side2 ?side3 ?side4 A5.out).mono ?_);(case side1 => repeat (first|exact (Kd.C_below HR0_0.out HB.out)|(with_reducible refine Kd.C_alloc ?_ _)|(with_reducible refine Kd.C_drewN ?_ _)|(with_reducible refine Kd.C_drew ?_)));(case side2 => exact HC0_0.out);(case side3 => repeat (first|exact (Kd.C_below HR0_1.out HB.out)|(with_reducible refine Kd.C_alloc ?_ _)|(with_reducible refine Kd.C_drewN ?_ _)|(with_reducible refine Kd.C_drew ?_)));(case side4 => exact HC0_1.out);rintro e w15 ⟨rfl,hb⟩;refine ⟨_,rfl,?_⟩;have n0_:=Am (blk_below (g:=gb449) (o:=.cells #[.slice A0_0 l0_0.length c0_0,.slice A0_1 l0_1.length c0_1,.int .i64 a0_2,.int .i64 a0_3,.int .i64 a0_4] 31 (0,0)) (by (with_reducible repeat (first|refine kN ?_ _|refine kD ?_|refine kA ?_ _));exact BK449.out) hb);have n1_:=Am (below_step (by repeat (first|(with_reducible first|exact HB.out|apply bA|apply bN|apply bD|refine bS ?_ GE449.out)|exact HB.out)) hb);clear BK449;clear HB;have BK449:=n0_;have HB:=n1_;clear n0_ n1_;(try clear hb);(try clear hb2);(try clear hk);(try clear hi)))
   go_meet
   case rel => exact ⟨_,(true),(by first|rfl|(simp;done)|(simp [*];done)),H',⟨by first|omega|exact Nat.le_refl _⟩,⟨by (with_reducible repeat (first|refine kN ?_ _|refine kD ?_|refine kA ?_ _));exact BK449.out⟩,⟨by repeat (first|(with_reducible first|exact HB.out|apply bA|apply bN|apply bD|refine bS ?_ GE449.out)|exact HB.out)⟩⟩
 case rest =>
  clear HC3
  try clear c1
  try clear p2
  try clear c3
  try clear c6
  try clear p6
  try clear c7
  try clear c7b0
  try clear c10
  try clear c10b0
  try clear c10b1
  try clear hcz11_0
  try clear hcz11_1
  try clear hcz11_2
  try clear hcz11_3
  try clear hcz11_4
  try clear hcz13_0
  try clear hcz13_1
  try clear hcz13_2
  try clear hcz13_3
  try clear hcz13_4
  try clear hcz14_0
  try clear hcz14_1
  try clear hcz14_2
  try clear hcz14_3
  try clear hcz14_4
  try clear hcz8_0
  try clear hcz8_1
  try clear hcz8_2
  try clear hcz8_3
  try clear hcz8_4
  try clear hfz11_0
  try clear hfz11_1
  try clear hfz11_2
  try clear hfz11_3
  try clear hfz11_4
  try clear hfz13_0
  try clear hfz13_1
  try clear hfz13_2
  try clear hfz13_3
  try clear hfz13_4
  try clear hfz14_0
  try clear hfz14_1
  try clear hfz14_2
  try clear hfz14_3
  try clear hfz14_4
  try clear hfz8_0
  try clear hfz8_1
  try clear hfz8_2
  try clear hfz8_3
  try clear hfz8_4
  obtain ⟨kq,x20_2,rfl,HA,HJ2,BK449,HB⟩:=hcut
  cases kq with
  | zero => exact absurd HA.out (by simp [spec_Curve.j0])
  | succ kj2 =>
   have H:=HA.out
   clear HA
   simp only [spec_Curve.j0] at H
   by_cases c16 : x20_2 = true
   ·subst c16
    have H1 : (some ([] : List (S98))) = some r:=by rw [if_pos rfl] at H;exact H
    clear H
    have H:=H1
    clear H1
    obtain rfl:=Option.some.inj H
    go_wp2
    go_ret
    exact ⟨_,by first|rfl|(simp [errW_none,errW_some] <;> rfl)|(simp [*,errW_none,errW_some] <;> rfl),by first|exact Kd.R_nil _ _ _ _ _|exact Kd.N_nil _ _ _ _ _|exact Kd.V_nil _ _ _ _ _|exact Kd.Q_nil _ _ _ _ _|exact Kd.S_nil _ _ _ _ _,by repeat (first|(with_reducible first|exact HB.out|apply bA|apply bN|apply bD|refine bS ?_ GE449.out)|exact HB.out)⟩
   ·replace c16:=Bool.eq_false_iff.mpr c16
    subst c16
    have H1 : (spec_Curve.l0 kj2 a1 ([] : List (S98)) 0 l0_0 l0_1 a0_2 a0_3 a0_4) = some r:=by rw [if_neg (show ¬ (false = true) by decide)] at H;exact H
    clear H
    have H:=H1
    clear H1
    have H':=Am H
    clear H
    go_wp2
    go_loopg [5,6] kj2 (fun kq v5 v6 w' => ∃ (x5_2 : List (S98)) (x6_2 : Int),v6 = .int .i64 x6_2∧As (spec_Curve.l0 kq a1 x5_2 x6_2 l0_0 l0_1 a0_2 a0_3 a0_4 = some r)∧As (kq ≤ kj2)∧As (Kd.R k98 98 w' w.heap.size (fun _ => True) v5 x5_2)∧As (w'.heap[gb449]? = some (.cells #[(.slice A0_0 l0_0.length c0_0),(.slice A0_1 l0_1.length c0_1),.int .i64 a0_2,.int .i64 a0_3,.int .i64 a0_4] 31 (0,0)))∧As (Below w.heap.size w w'))
    case atStart => exact ⟨(([] : List (S98))),(0),(by first|rfl|(simp;done)|(simp [*];done)),H',⟨Nat.le_refl _⟩,⟨by first|exact Kd.R_nil _ _ _ _ _|exact Kd.N_nil _ _ _ _ _|exact Kd.V_nil _ _ _ _ _|exact Kd.Q_nil _ _ _ _ _|exact Kd.S_nil _ _ _ _ _⟩,⟨by (with_reducible repeat (first|refine kN ?_ _|refine kD ?_|refine kA ?_ _));exact BK449.out⟩,⟨by repeat (first|(with_reducible first|exact HB.out|apply bA|apply bN|apply bD|refine bS ?_ GE449.out)|exact HB.out)⟩⟩
    case round =>
     clear H'
     try clear c1
     try clear p2
     try clear c3
     try clear c6
     try clear p6
     try clear c7
     try clear c7b0
     try clear c10
     try clear c10b0
     try clear c10b1
     try clear c16
     try clear hcz11_0
     try clear hcz11_1
     try clear hcz11_2
     try clear hcz11_3
     try clear hcz11_4
     try clear hcz13_0
     try clear hcz13_1
     try clear hcz13_2
     try clear hcz13_3
     try clear hcz13_4
     try clear hcz14_0
     try clear hcz14_1
     try clear hcz14_2
     try clear hcz14_3
     try clear hcz14_4
     try clear hcz8_0
     try clear hcz8_1
     try clear hcz8_2
     try clear hcz8_3
     try clear hcz8_4
     try clear hfz11_0
     try clear hfz11_1
     try clear hfz11_2
     try clear hfz11_3
     try clear hfz11_4
     try clear hfz13_0
     try clear hfz13_1
     try clear hfz13_2
     try clear hfz13_3
     try clear hfz13_4
     try clear hfz14_0
     try clear hfz14_1
     try clear hfz14_2
     try clear hfz14_3
     try clear hfz14_4
     try clear hfz8_0
     try clear hfz8_1
     try clear hfz8_2
     try clear hfz8_3
     try clear hfz8_4
     try clear p2
     try clear p6
     obtain ⟨x5_2,x6_2,rfl,HA,HK2,HO_5,BK449,HB⟩:=hrel
     cases gk with
     | zero => exact absurd HA.out (by simp [spec_Curve.l0])
     | succ k2 =>
      have H:=HA.out
      clear HA
      simp only [spec_Curve.l0] at H
      by_cases c17 : x6_2 ≤ a0_3
      ·rw [if_pos c17] at H
       have c17b0 : decide (x6_2 ≤ a0_3) = true:=decide_eq_true c17
       clear c17
       replace H:=Option.bind_eq_some_iff.mp H
       obtain ⟨t451,A180,H⟩:=H
       replace H : (if x5_2.length < 8796093022208 then (spec_Curve.l0 k2 a1 (x5_2 ++ [(⟨x6_2,t451⟩ : S98)]) (wrap64 (x6_2 + a1)) l0_0 l0_1 a0_2 a0_3 a0_4) else (none)) = some r:=H
       have A18:=Am A180
       clear A180
       by_cases c19 : x5_2.length < 8796093022208
       ·rw [if_pos c19] at H
        have LMc19:=Am c19
        clear c19
        obtain ⟨y452,hy452⟩ : ∃ y_ : List (S98),y_ = (x5_2 ++ [(⟨x6_2,t451⟩ : S98)]):=⟨_,rfl⟩
        replace H : (spec_Curve.l0 k2 a1 y452 (wrap64 (x6_2 + a1)) l0_0 l0_1 a0_2 a0_3 a0_4) = some r:=by first|(rw [hy452];with_reducible exact H)|(have H2_:=(Option.bind_some _ _).symm.trans H;rw [hy452];with_reducible exact H2_)|(have H2_:=(Option.bind_some _ _).symm.trans H;with_reducible exact H2_)|with_reducible exact H|(rw [hy452];exact H)|exact H
        have Ny452:=Am hy452
        clear hy452
        have H':=Am H
        clear H
        have hcz20_0 : wr.cell? ⟨gb449,0,none⟩ = some (.slice A0_0 l0_0.length c0_0):=(kC BK449.out 0).trans rfl
        have hcz20_1 : wr.cell? ⟨gb449,1,none⟩ = some (.slice A0_1 l0_1.length c0_1):=(kC BK449.out 1).trans rfl
        have hcz20_2 : wr.cell? ⟨gb449,2,none⟩ = some (.int .i64 a0_2):=(kC BK449.out 2).trans rfl
        have hcz20_3 : wr.cell? ⟨gb449,3,none⟩ = some (.int .i64 a0_3):=(kC BK449.out 3).trans rfl
        have hcz20_4 : wr.cell? ⟨gb449,4,none⟩ = some (.int .i64 a0_4):=(kC BK449.out 4).trans rfl
        have hfz20_0:=kF BK449.out 0
        have hfz20_1:=kF BK449.out 1
        have hfz20_2:=kF BK449.out 2
        have hfz20_3:=kF BK449.out 3
        have hfz20_4:=kF BK449.out 4
        go_wp2_with (first|((with_reducible refine gate_callee (f:=85) rfl ?_);refine goesL_ (some 32) rfl rfl Try.func85 (by kernel_rfl) rfl #[.agg #[.slice A0_0 l0_0.length c0_0,.slice A0_1 l0_1.length c0_1,.int .i64 a0_2,.int .i64 a0_3,.int .i64 a0_4],.int .i64 x6_2] rfl (by (try simp only [List.map_toArray,List.map_cons,List.map_nil]);first|done|rfl|(simp only [List.length_drop,List.length_take];rfl)) ?_;(with_reducible refine (spec_l3most.calls k2 _ _ l0_0 _ _ l0_1 a0_2 a0_3 a0_4 x6_2 t451 _ ?side1 ?side2 ?side3 ?side4 A18.out).mono ?_);(case side1 => repeat (first|exact (Kd.C_below HR0_0.out HB.out)|(with_reducible refine Kd.C_alloc ?_ _)|(with_reducible refine Kd.C_drewN ?_ _)|(with_reducible refine Kd.C_drew ?_)));(case side2 => exact HC0_0.out);(case side3 => repeat (first|exact (Kd.C_below HR0_1.out HB.out)|(with_reducible refine Kd.C_alloc ?_ _)|(with_reducible refine Kd.C_drewN ?_ _)|(with_reducible refine Kd.C_drew ?_)));(case side4 => exact HC0_1.out);rintro e w21 ⟨rfl,hb⟩;refine ⟨_,rfl,?_⟩;have n0_:=Am (Kd.R_below (by (with_reducible repeat (first|apply Kd.R_alloc|apply Kd.R_drewN|apply Kd.R_drew));exact HO_5.out) hb);have n1_:=Am (blk_below (g:=gb449) (o:=.cells #[.slice A0_0 l0_0.length c0_0,.slice A0_1 l0_1.length c0_1,.int .i64 a0_2,.int .i64 a0_3,.int .i64 a0_4] 31 (0,0)) (by (with_reducible repeat (first|refine kN ?_ _|refine kD ?_|refine kA ?_ _));exact BK449.out) hb);have n2_:=Am (below_step (by repeat (first|(with_reducible first|exact HB.out|apply bA|apply bN|apply bD|refine bS ?_ GE449.out)|exact HB.out)) hb);clear HO_5;clear BK449;clear HB;have HO_5:=n0_;have BK449:=n1_;have HB:=n2_;clear n0_ n1_ n2_;(try clear hb);(try clear hb2);(try clear hk);(try clear hi))|((with_reducible refine gate_builtin (b:=.append) (xs:=#[.tmp 28,.tmp 34]) rfl ?_);at_builtin;refine Kd.R_append k98 (w0:=w) w.heap.size rfl (.tmp 28) (.tmp 34) 51 98 (.agg #[(.int .i64 0),(.int .i64 0)]) 16 rfl Try.underlying51 info98 rfl (by decide) (by omega) u5 x5_2 (⟨x6_2,t451⟩ : S98) [.int .i64 x6_2,.int .i64 t451] (fun _ => True) (fun _ => False) rfl rfl ?aP (fun _ hk => hk.elim) ?aF ?aO ?aB ?aS ?aL ?_;(case aP => exact k98_mkM _ _ _ (⟨x6_2,t451⟩ : S98));(case aB => exact (by repeat (first|(with_reducible first|exact HB.out|apply bA|apply bN|apply bD|refine bS ?_ GE449.out)|exact HB.out)));(case aF => exact (fun _ _ => trivial));(case aO => exact (by (with_reducible repeat (first|apply Kd.R_alloc|apply Kd.R_drewN|apply Kd.R_drew));exact HO_5.out));(case aS => exact (below_size (by repeat (first|(with_reducible first|exact HB.out|apply bA|apply bN|apply bD|refine bS ?_ GE449.out)|exact HB.out))));(case aL => have:=LMc19.out;omega);intro v453 w22 ho hb hg hat;rw [← Ny452.out] at ho;have n0_:=Am (blk_grown (g:=gb449) (o:=.cells #[.slice A0_0 l0_0.length c0_0,.slice A0_1 l0_1.length c0_1,.int .i64 a0_2,.int .i64 a0_3,.int .i64 a0_4] 31 (0,0)) (by (with_reducible repeat (first|refine kN ?_ _|refine kD ?_|refine kA ?_ _));exact BK449.out) hg (Kd.R_ne HO_5.out BK449.out (by decide)));have n1_:=Am (hb);have n2_:=Am (ho);clear BK449;clear HB;clear HO_5;have BK449:=n0_;have HB:=n1_;have HO454:=n2_;clear n0_ n1_ n2_;clear ho hb hg hat))
        go_roundg k2
        case measure => have:=HJ2.out;have:=HK2.out;omega
        case rel => exact ⟨(y452),(wrap64 (x6_2 + a1)),(by first|rfl|(simp;done)|(simp [*];done)),H',⟨by have:=HJ2.out;have:=HK2.out;omega⟩,⟨by (with_reducible repeat (first|apply Kd.R_alloc|apply Kd.R_drewN|apply Kd.R_drew));exact HO454.out⟩,⟨by (with_reducible repeat (first|refine kN ?_ _|refine kD ?_|refine kA ?_ _));exact BK449.out⟩,⟨by repeat (first|(with_reducible first|exact HB.out|apply bA|apply bN|apply bD|refine bS ?_ GE449.out)|exact HB.out)⟩⟩
       ·rw [if_neg c19] at H
        exact absurd H (by simp)
      ·rw [if_neg c17] at H
       have c17b0 : decide (x6_2 ≤ a0_3) = false:=decide_eq_false c17
       clear c17
       obtain rfl:=Option.some.inj H
       have hcz23_0 : wr.cell? ⟨gb449,0,none⟩ = some (.slice A0_0 l0_0.length c0_0):=(kC BK449.out 0).trans rfl
       have hcz23_1 : wr.cell? ⟨gb449,1,none⟩ = some (.slice A0_1 l0_1.length c0_1):=(kC BK449.out 1).trans rfl
       have hcz23_2 : wr.cell? ⟨gb449,2,none⟩ = some (.int .i64 a0_2):=(kC BK449.out 2).trans rfl
       have hcz23_3 : wr.cell? ⟨gb449,3,none⟩ = some (.int .i64 a0_3):=(kC BK449.out 3).trans rfl
       have hcz23_4 : wr.cell? ⟨gb449,4,none⟩ = some (.int .i64 a0_4):=(kC BK449.out 4).trans rfl
       have hfz23_0:=kF BK449.out 0
       have hfz23_1:=kF BK449.out 1
       have hfz23_2:=kF BK449.out 2
       have hfz23_3:=kF BK449.out 3
       have hfz23_4:=kF BK449.out 4
       go_wp2
       go_ret
       exact ⟨_,by first|rfl|(simp [errW_none,errW_some] <;> rfl)|(simp [*,errW_none,errW_some] <;> rfl),by (with_reducible repeat (first|apply Kd.R_alloc|apply Kd.R_drewN|apply Kd.R_drew));exact HO_5.out,by repeat (first|(with_reducible first|exact HB.out|apply bA|apply bN|apply bD|refine bS ?_ GE449.out)|exact HB.out)⟩

end Go.Proofs.Ytgakkndbcilclaa.PA
