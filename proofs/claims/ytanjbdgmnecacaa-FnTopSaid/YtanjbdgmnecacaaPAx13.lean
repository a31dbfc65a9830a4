-- Written by a program of this session (wip/print/myprint.py) over the kit's print, with contracts of its own; not a text of print.sh's.
import Derived.Test.YtanjbdgmnecacaaPAx0
import Derived.Test.YtanjbdgmnecacaaPAx11
import Derived.Test.YtanjbdgmnecacaaPAx12
namespace Go.Proofs.Ytanjbdgmnecacaa.PA
open Go.RowKit Go.Proofs.YtanjbdgmnecacaaW.PrintWords Go.Proofs.YtanjbdgmnecacaaW.PrintLast Go.Proofs.YtanjbdgmnecacaaW.PrintMore
attribute [local go_sem] max2_int min2_int max_two min_two   -- for this text's walks alone
set_option linter.unusedVariables false
set_option linter.unusedSimpArgs false

/-! ### spec_l3good: function 37 -/
def spec_l3good.f (k : Nat) (l0_0 : List (S39)) (l0_1 : List (S45)) (a0_2 : Int) (a0_3 : Int) (a0_4 : Int) (a1 : Int) (a2 : Int) : Option (Bool):=(spec_ProfileOk.f k l0_0 l0_1 a0_2 a0_3 a0_4).bind fun t295 => (if t295 = 0 then ((spec_l2total.f k l0_0 l0_1 a0_2 a0_3 a0_4).bind fun t296 => ((spec_l1in.f a1 0 t296).bind fun t297 => (if t297 = true then ((spec_l1in.f a2 0 10000).bind fun t298 => (some t298)) else (some false)))) else (some false))
theorem spec_l3good.mono : ∀ a0 a1 a2 a3 a4 a5 a6 k,LeO (spec_l3good.f k a0 a1 a2 a3 a4 a5 a6) (spec_l3good.f (k + 1) a0 a1 a2 a3 a4 a5 a6):=by
 intro a0 a1 a2 a3 a4 a5 a6 k
 unfold spec_l3good.f
 repeat' first
   | (with_reducible exact spec_ProfileOk.mono _ _ _ _ _ _)
   | (with_reducible exact spec_l2total.mono _ _ _ _ _ _)
   | (with_reducible exact LeO.refl _)
   | (with_reducible exact LeO.none _)
   | (with_reducible refine LeO.ite ?_ ?_)
   | (with_reducible refine LeO.bind ?_ (fun _ => ?_))
   | exact spec_ProfileOk.mono _ _ _ _ _ _
   | exact spec_l2total.mono _ _ _ _ _ _
   | exact LeO.none _
   | refine LeO.ite ?_ ?_
   | refine LeO.bind ?_ (fun _ => ?_)
set_option maxHeartbeats 8000000 in
set_option maxRecDepth 100000 in
theorem spec_l3good.calls (k : Nat) (A0_0 : Option Addr) (c0_0 : Nat) (l0_0 : List (S39)) (A0_1 : Option Addr) (c0_1 : Nat) (l0_1 : List (S45)) (a0_2 : Int) (a0_3 : Int) (a0_4 : Int) (a1 : Int) (a2 : Int) (r : Bool) (w : World) (hr0_0 : Kd.C k39 w A0_0 l0_0.length l0_0) (hc0_0 : l0_0.length ≤ c0_0) (hr0_1 : Kd.C k45 w A0_1 l0_1.length l0_1) (hc0_1 : l0_1.length ≤ c0_1) (h : spec_l3good.f k l0_0 l0_1 a0_2 a0_3 a0_4 a1 a2 = some r) :
  Calls Try.prog 37 #[.agg #[.slice A0_0 l0_0.length c0_0,.slice A0_1 l0_1.length c0_1,.int .i64 a0_2,.int .i64 a0_3,.int .i64 a0_4],.int .i64 a1,.int .i64 a2] w fun e w' => e = .returned (.bool r)∧Below w.heap.size w w':=by
 have hu26:=Try.underlying26
 have HR0_0:=Am hr0_0
 have HC0_0:=Am hc0_0
 clear hr0_0 hc0_0
 have HR0_1:=Am hr0_1
 have HC0_1:=Am hc0_1
 clear hr0_1 hc0_1
 have HB:=Am (Below.refl w.heap.size w)
 have H : ((spec_ProfileOk.f k l0_0 l0_1 a0_2 a0_3 a0_4).bind fun t295 => (if t295 = 0 then ((spec_l2total.f k l0_0 l0_1 a0_2 a0_3 a0_4).bind fun t296 => ((spec_l1in.f a1 0 t296).bind fun t297 => (if t297 = true then ((spec_l1in.f a2 0 10000).bind fun t298 => (some t298)) else (some false)))) else (some false))) = some r:=h
 clear h
 replace H:=Option.bind_eq_some_iff.mp H
 obtain ⟨t295,A40,H⟩:=H
 replace H : (if t295 = 0 then ((spec_l2total.f k l0_0 l0_1 a0_2 a0_3 a0_4).bind fun t296 => ((spec_l1in.f a1 0 t296).bind fun t297 => (if t297 = true then ((spec_l1in.f a2 0 10000).bind fun t298 => (some t298)) else (some false)))) else (some false)) = some r:=H
 have A4:=Am A40
 clear A40
 by_cases c5 : t295 = 0
 ·rw [if_pos c5] at H
  have c5b0 : (t295 == 0) = true:=beq_iff_eq.mpr c5
  have c5b1 : (t295 != 0) = false:=bne_eq_false_iff_eq.mpr c5
  clear c5
  replace H:=Option.bind_eq_some_iff.mp H
  obtain ⟨t296,A60,H⟩:=H
  replace H : ((spec_l1in.f a1 0 t296).bind fun t297 => (if t297 = true then ((spec_l1in.f a2 0 10000).bind fun t298 => (some t298)) else (some false))) = some r:=H
  have A6:=Am A60
  clear A60
  replace H:=Option.bind_eq_some_iff.mp H
  obtain ⟨t297,A70,H⟩:=H
  replace H : (if t297 = true then ((spec_l1in.f a2 0 10000).bind fun t298 => (some t298)) else (some false)) = some r:=H
  have A7:=Am A70
  clear A70
  by_cases c8 : t297 = true
  ·subst c8
   have H1 : ((spec_l1in.f a2 0 10000).bind fun t298 => (some t298)) = some r:=by rw [if_pos rfl] at H;exact H
   clear H
   have H:=H1
   clear H1
   replace H:=Option.bind_eq_some_iff.mp H
   obtain ⟨t298,A90,H⟩:=H
   replace H : (some t298) = some r:=H
   have A9:=Am A90
   clear A90
   obtain rfl:=Option.some.inj H
   go_enter Try.func37,Try.ntmps37
   go_wp2_with (first|((with_reducible refine gate_dst (N:=3) rfl ?_);refine box_event ?hg (N:=3) ?hd (cs:=#[.slice A0_0 l0_0.length c0_0,.slice A0_1 l0_1.length c0_1,.int .i64 a0_2,.int .i64 a0_3,.int .i64 a0_4]) (t:=26) ?hr ?_;(case hd => rfl);(case hg => rfl);(case hr => first|(go_simp;done)|(go_simp;rfl));intro gb294 hg w10 hbox hb;have n0_:=Am (below_step (by repeat (first|(with_reducible first|exact HB.out|apply bA|apply bN|apply bD)|exact HB.out)) hb);have n1_:=Am (hbox);have n2_:=Am ((by rw [hg];exact (below_size (by repeat (first|(with_reducible first|exact HB.out|apply bA|apply bN|apply bD)|exact HB.out))) : w.heap.size ≤ gb294));have n3_:=Am ((by rw [hg];exact (below_size (by repeat (first|(with_reducible first|exact HB.out|apply bA|apply bN|apply bD)|exact HB.out))) : w.heap.size ≤ gb294));clear HB;have HB:=n0_;have BK294:=n1_;have GW294:=n2_;have GE294:=n3_;clear n0_ n1_ n2_ n3_;clear hb hbox hg;have hcz11_0 : w10.cell? ⟨gb294,0,none⟩ = some (.slice A0_0 l0_0.length c0_0):=(kC BK294.out 0).trans rfl;have hcz11_1 : w10.cell? ⟨gb294,1,none⟩ = some (.slice A0_1 l0_1.length c0_1):=(kC BK294.out 1).trans rfl;have hcz11_2 : w10.cell? ⟨gb294,2,none⟩ = some (.int .i64 a0_2):=(kC BK294.out 2).trans rfl;have hcz11_3 : w10.cell? ⟨gb294,3,none⟩ = some (.int .i64 a0_3):=(kC BK294.out 3).trans rfl;have hcz11_4 : w10.cell? ⟨gb294,4,none⟩ = some (.int .i64 a0_4):=(kC BK294.out 4).trans rfl;have hfz11_0:=kF BK294.out 0;have hfz11_1:=kF BK294.out 1;have hfz11_2:=kF BK294.out 2;have hfz11_3:=kF BK294.out 3;have hfz11_4:=kF BK294.out 4)|((with_reducible refine gate_callee (f:=20) rfl ?_);refine goesL_ (some 8) rfl rfl Try.func20 (by kernel_rfl) rfl #[.agg #[.slice A0_0 l0_0.length c0_0,.slice A0_1 l0_1.length c0_1,.int .i64 a0_2,.int .i64 a0_3,.int .i64 a0_4]] rfl (by (try simp only [List.map_toArray,List.map_cons,List.map_nil]);first|done|rfl|(simp only [List.length_drop,List.length_take];rfl)) ?_;(with_reducible refine (spec_ProfileOk.calls k _ _ l0_0 _ _ l0_1 a0_2 a0_3 a0_4 t295 _ ?side1 ?side2 ?side3 ?side4 A4.out).mono ?_);(case side1 => repeat (first|exact (Kd.C_below HR0_0.out HB.out)|(with_reducible refine Kd.C_alloc ?_ _)|(with_reducible refine Kd.C_drewN ?_ _)|(with_reducible refine Kd.C_drew ?_)));(case side2 => exact HC0_0.out);(case side3 => repeat (first|exact (Kd.C_below HR0_1.out HB.out)|(with_reducible refine Kd.C_alloc ?_ _)|(with_reducible refine Kd.C_drewN ?_ _)|(with_reducible refine Kd.C_drew ?_)));(case side4 => exact HC0_1.out);rintro e w12 ⟨rfl,hb⟩;refine ⟨_,rfl,?_⟩;have n0_:=Am (blk_below (g:=gb294) (o:=.cells #[.slice A0_0 l0_0.length c0_0,.slice A0_1 l0_1.length c0_1,.int .i64 a0_2,.int .i64 a0_3,.int .i64 a0_4] 26 (0,0)) (by (with_reducible repeat (first|refine kN ?_ _|refine kD ?_|refine kA ?_ _));exact BK294.out) hb);have n1_:=Am (below_step (by repeat (first|(with_reducible first|exact HB.out|apply bA|apply bN|apply bD|refine bS ?_ GE294.out)|exact HB.out)) hb);clear BK294;clear HB;have BK294:=n0_;have HB:=n1_;clear n0_ n1_;(try clear hb);(try clear hb2);(try clear hk);(try clear hi);have hcz13_0 : w12.cell? ⟨gb294,0,none⟩ = some (.slice A0_0 l0_0.length c0_0):=(kC BK294.out 0).trans rfl;have hcz13_1 : w12.cell? ⟨gb294,1,none⟩ = some (.slice A0_1 l0_1.length c0_1):=(kC BK294.out 1).trans rfl;have hcz13_2 : w12.cell? ⟨gb294,2,none⟩ = some (.int .i64 a0_2):=(kC BK294.out 2).trans rfl;have hcz13_3 : w12.cell? ⟨gb294,3,none⟩ = some (.int .i64 a0_3):=(kC BK294.out 3).trans rfl;have hcz13_4 : w12.cell? ⟨gb294,4,none⟩ = some (.int .i64 a0_4):=(kC BK294.out 4).trans rfl;have hfz13_0:=kF BK294.out 0;have hfz13_1:=kF BK294.out 1;have hfz13_2:=kF BK294.out 2;have hfz13_3:=kF BK294.out 3;have hfz13_4:=kF BK294.out 4)|(go_at_call 56;(with_reducible refine (spec_l2total.calls k _ _ l0_0 _ _ l0_1 a0_2 a0_3 a0_4 t296 _ ?side1 ?side2 ?side3 ?side4 A6.out).mono ?_);(case side1 => repeat (first|exact (Kd.C_below HR0_0.out HB.out)|(with_reducible refine Kd.C_alloc ?_ _)|(with_reducible refine Kd.C_drewN ?_ _)|(with_reducible refine Kd.C_drew ?_)));(case side2 => exact HC0_0.out);(case side3 => repeat (first|exact (Kd.C_below HR0_1.out HB.out)|(with_reducible refine Kd.C_alloc ?_ _)|(with_reducible refine Kd.C_drewN ?_ _)|(with_reducible refine Kd.C_drew ?_)));(case side4 => exact HC0_1.out);rintro e w14 ⟨rfl,hb⟩;have n0_:=Am (blk_below (g:=gb294) (o:=.cells #[.slice A0_0 l0_0.length c0_0,.slice A0_1 l0_1.length c0_1,.int .i64 a0_2,.int .i64 a0_3,.int .i64 a0_4] 26 (0,0)) (by (with_reducible repeat (first|refine kN ?_ _|refine kD ?_|refine kA ?_ _));exact BK294.out) hb);have n1_:=Am (below_step (by repeat (first|(with_reducible first|exact HB.out|apply bA|apply bN|apply bD|refine bS ?_ GE294.out)|exact HB.out)) hb);clear BK294;clear HB;have BK294:=n0_;have HB:=n1_;clear n0_ n1_;(try clear hb);(try clear hb2);(try clear hk);(try clear hi))|(go_at_call 54;(with_reducible refine (spec_l1in.calls a1 0 t296 true _ A7.out).mono ?_);rintro e w' ⟨rfl,⟨nd,rfl⟩⟩)|(go_at_call 54;(with_reducible refine (spec_l1in.calls a2 0 10000 t298 _ A9.out).mono ?_);rintro e w' ⟨rfl,⟨nd,rfl⟩⟩))
   go_ret
   exact ⟨by first|rfl|(simp [errW_none,errW_some] <;> rfl)|(simp [*,errW_none,errW_some] <;> rfl),by repeat (first|(with_reducible first|exact HB.out|apply bA|apply bN|apply bD|refine bS ?_ GE294.out)|exact HB.out)⟩
  ·replace c8:=Bool.eq_false_iff.mpr c8
   subst c8
   have H1 : (some false) = some r:=by rw [if_neg (show ¬ (false = true) by decide)] at H;exact H
   clear H
   have H:=H1
   clear H1
   obtain rfl:=Option.some.inj H
   go_enter Try.func37,Try.ntmps37
   go_wp2_with (first|((with_reducible refine gate_dst (N:=3) rfl ?_);refine box_event ?hg (N:=3) ?hd (cs:=#[.slice A0_0 l0_0.length c0_0,.slice A0_1 l0_1.length c0_1,.int .i64 a0_2,.int .i64 a0_3,.int .i64 a0_4]) (t:=26) ?hr ?_;(case hd => rfl);(case hg => rfl);(case hr => first|(go_simp;done)|(go_simp;rfl));intro gb294 hg w15 hbox hb;have n0_:=Am (below_step (by repeat (first|(with_reducible first|exact HB.out|apply bA|apply bN|apply bD)|exact HB.out)) hb);have n1_:=Am (hbox);have n2_:=Am ((by rw [hg];exact (below_size (by repeat (first|(with_reducible first|exact HB.out|apply bA|apply bN|apply bD)|exact HB.out))) : w.heap.size ≤ gb294));have n3_:=Am ((by rw [hg];exact (below_size (by repeat (first|(with_reducible first|exact HB.out|apply bA|apply bN|apply bD)|exact HB.out))) : w.heap.size ≤ gb294));clear HB;have HB:=n0_;have BK294:=n1_;have GW294:=n2_;have GE294:=n3_;clear n0_ n1_ n2_ n3_;clear hb hbox hg;have hcz16_0 : w15.cell? ⟨gb294,0,none⟩ = some (.slice A0_0 l0_0.length c0_0):=(kC BK294.out 0).trans rfl;have hcz16_1 : w15.cell? ⟨gb294,1,none⟩ = some (.slice A0_1 l0_1.length c0_1):=(kC BK294.out 1).trans rfl;have hcz16_2 : w15.cell? ⟨gb294,2,none⟩ = some (.int .i64 a0_2):=(kC BK294.out 2).trans rfl;have hcz16_3 : w15.cell? ⟨gb294,3,none⟩ = some (.int .i64 a0_3):=(kC BK294.out 3).trans rfl;have hcz16_4 : w15.cell? ⟨gb294,4,none⟩ = some (.int .i64 a0_4):=(kC BK294.out 4).trans rfl;have hfz16_0:=kF BK294.out 0;have hfz16_1:=kF BK294.out 1;have hfz16_2:=kF BK294.out 2;have hfz16_3:=kF BK294.out 3;have hfz16_4:=kF BK294.out 4)|((with_reducible refine gate_callee (f:=20) rfl ?_);refine goesL_ (some 8) rfl rfl Try.func20 (by kernel_rfl) rfl #[.agg #[.slice A0_0 l0_0.length c0_0,.slice A0_1 l0_1.length c0_1,.int .i64 a0_2,.int .i64 a0_3,.int .i64 a0_4]] rfl (by (try simp only [List.map_toArray,List.map_cons,List.map_nil]);first|done|rfl|(simp only [List.length_drop,List.length_take];rfl)) ?_;(with_reducible refine (spec_ProfileOk.calls k _ _ l0_0 _ _ l0_1 a0_2 a0_3 a0_4 t295 _ ?side1 ?side2 ?side3 ?side4 A4.out).mono ?_);(case side1 => repeat (first|exact (Kd.C_below HR0_0.out HB.out)|(with_reducible refine Kd.C_alloc ?_ _)|(with_reducible refine Kd.C_drewN ?_ _)|(with_reducible refine Kd.C_drew ?_)));(case side2 => exact HC0_0.out);(case side3 => repeat (first|exact (Kd.C_below HR0_1.out HB.out)|(with_reducible refine Kd.C_alloc ?_ _)|(with_reducible refine Kd.C_drewN ?_ _)|(with_reducible refine Kd.C_drew ?_)));(case side4 => exact HC0_1.out);rintro e w17 ⟨rfl,hb⟩;refine ⟨_,rfl,?_⟩;have n0_:=Am (blk_below (g:=gb294) (o:=.cells #[.slice A0_0 l0_0.length c0_0,.slice A0_1 l0_1.length c0_1,.int .i64 a0_2,.int .i64 a0_3,.int .i64 a0_4] 26 (0,0)) (by (with_reducible repeat (first|refine kN ?_ _|refine kD ?_|refine kA ?_ _));exact BK294.out) hb);have n1_:=Am (below_step (by repeat (first|(with_reducible first|exact HB.out|apply bA|apply bN|apply bD|refine bS ?_ GE294.out)|exact HB.out)) hb);clear BK294;clear HB;have BK294:=n0_;have HB:=n1_;clear n0_ n1_;(try clear hb);(try clear hb2);(try clear hk);(try clear hi);have hcz18_0 : w17.cell? ⟨gb294,0,none⟩ = some (.slice A0_0 l0_0.length c0_0):=(kC BK294.out 0).trans rfl;have hcz18_1 : w17.cell? ⟨gb294,1,none⟩ = some (.slice A0_1 l0_1.length c0_1):=(kC BK294.out 1).trans rfl;have hcz18_2 : w17.cell? ⟨gb294,2,none⟩ = some (.int .i64 a0_2):=(kC BK294.out 2).trans rfl;have hcz18_3 : w17.cell? ⟨gb294,3,none⟩ = some (.int .i64 a0_3):=(kC BK294.out 3).trans rfl;have hcz18_4 : w17.cell? ⟨gb294,4,none⟩ = some (.int .i64 a0_4):=(kC BK294.out 4).trans rfl;have hfz18_0:=kF BK294.out 0;have hfz18_1:=kF BK294.out 1;have hfz18_2:=kF BK294.out 2;have hfz18_3:=kF BK294.out 3;have hfz18_4:=kF BK294.out 4)|(go_at_call 56;(with_reducible refine (spec_l2total.calls k _ _ l0_0 _ _ l0_1 a0_2 a0_3 a0_4 t296 _ ?side1 ?side2 ?side3 ?side4 A6.out).mono ?_);(case side1 => repeat (first|exact (Kd.C_below HR0_0.out HB.out)|(with_reducible refine Kd.C_alloc ?_ _)|(with_reducible refine Kd.C_drewN ?_ _)|(with_reducible refine Kd.C_drew ?_)));(case side2 => exact HC0_0.out);(case side3 => repeat (first|exact (Kd.C_below HR0_1.out HB.out)|(with_reducible refine Kd.C_alloc ?_ _)|(with_reducible refine Kd.C_drewN ?_ _)|(with_reducible refine Kd.C_drew ?_)));(case side4 => exact HC0_1.out);rintro e w19 ⟨rfl,hb⟩;have n0_:=Am (blk_below (g:=gb294) (o:=.cells #[.slice A0_0 l0_0.length c0_0,.slice A0_1 l0_1.length c0_1,.int .i64 a0_2,.int .i64 a0_3,.int .i64 a0_4] 26 (0,0)) (by (with_reducible repeat (first|refine kN ?_ _|refine kD ?_|refine kA ?_ _));exact BK294.out) hb);have n1_:=Am (below_step (by repeat (first|(with_reducible first|exact HB.out|apply bA|apply bN|apply bD|refine bS ?_ GE294.out)|exact HB.out)) hb);clear BK294;clear HB;have BK294:=n0_;have HB:=n1_;clear n0_ n1_;(try clear hb);(try clear hb2);(try clear hk);(try clear hi))|(go_at_call 54;(with_reducible refine (spec_l1in.calls a1 0 t296 false _ A7.out).mono ?_);rintro e w' ⟨rfl,⟨nd,rfl⟩⟩))
   go_ret
   exact ⟨by first|rfl|(simp [errW_none,errW_some] <;> rfl)|(simp [*,errW_none,errW_some] <;> rfl),by repeat (first|(with_reducible first|exact HB.out|apply bA|apply bN|apply bD|refine bS ?_ GE294.out)|exact HB.out)⟩
 ·rw [if_neg c5] at H
  have c5b0 : (t295 == 0) = false:=beq_eq_false_iff_ne.mpr c5
  have c5b1 : (t295 != 0) = true:=bne_iff_ne.mpr c5
  obtain rfl:=Option.some.inj H
  go_enter Try.func37,Try.ntmps37
  go_wp2_with (first|((with_reducible refine gate_dst (N:=3) rfl ?_);refine box_event ?hg (N:=3) ?hd (cs:=#[.slice A0_0 l0_0.length c0_0,.slice A0_1 l0_1.length c0_1,.int .i64 a0_2,.int .i64 a0_3,.int .i64 a0_4]) (t:=26) ?hr ?_;(case hd => rfl);(case hg => rfl);(case hr => first|(go_simp;done)|(go_simp;rfl));intro gb294 hg w20 hbox hb;have n0_:=Am (below_step (by repeat (first|(with_reducible first|exact HB.out|apply bA|apply bN|apply bD)|exact HB.out)) hb);have n1_:=Am (hbox);have n2_:=Am ((by rw [hg];exact (below_size (by repeat (first|(with_reducible first|exact HB.out|apply bA|apply bN|apply bD)|exact HB.out))) : w.heap.size ≤ gb294));have n3_:=Am ((by rw [hg];exact (below_size (by repeat (first|(with_reducible first|exact HB.out|apply bA|apply bN|apply bD)|exact HB.out))) : w.heap.size ≤ gb294));clear HB;have HB:=n0_;have BK294:=n1_;have GW294:=n2_;have GE294:=n3_;clear n0_ n1_ n2_ n3_;clear hb hbox hg;have hcz21_0 : w20.cell? ⟨gb294,0,none⟩ = some (.slice A0_0 l0_0.length c0_0):=(kC BK294.out 0).trans rfl;have hcz21_1 : w20.cell? ⟨gb294,1,none⟩ = some (.slice A0_1 l0_1.length c0_1):=(kC BK294.out 1).trans rfl;have hcz21_2 : w20.cell? ⟨gb294,2,none⟩ = some (.int .i64 a0_2):=(kC BK294.out 2).trans rfl;have hcz21_3 : w20.cell? ⟨gb294,3,none⟩ = some (.int .i64 a0_3):=(kC BK294.out 3).trans rfl;have hcz21_4 : w20.cell? ⟨gb294,4,none⟩ = some (.int .i64 a0_4):=(kC BK294.out 4).trans rfl;have hfz21_0:=kF BK294.out 0;have hfz21_1:=kF BK294.out 1;have hfz21_2:=kF BK294.out 2;have hfz21_3:=kF BK294.out 3;have hfz21_4:=kF BK294.out 4)|((with_reducible refine gate_callee (f:=20) rfl ?_);refine goesL_ (some 8) rfl rfl Try.func20 (by kernel_rfl) rfl #[.agg #[.slice A0_0 l0_0.length c0_0,.slice A0_1 l0_1.length c0_1,.int .i64 a0_2,.int .i64 a0_3,.int .i64 a0_4]] rfl (by (try simp only [List.map_toArray,List.map_cons,List.map_nil]);first|done|rfl|(simp only [List.length_drop,List.length_take];rfl)) ?_;(with_reducible refine (spec_ProfileOk.calls k _ _ l0_0 _ _ l0_1 a0_2 a0_3 a0_4 t295 _ ?side1 ?side2 ?side3 ?side4 A4.out).mono ?_);(case side1 => repeat (first|exact (Kd.C_below HR0_0.out HB.out)|(with_reducible refine Kd.C_alloc ?_ _)|(with_reducible refine Kd.C_drewN ?_ _)|(with_reducible refine Kd.C_drew ?_)));(case side2 => exact HC0_0.out);(case side3 => repeat (first|exact (Kd.C_below HR0_1.out HB.out)|(with_reducible refine Kd.C_alloc ?_ _)|(with_reducible refine Kd.C_drewN ?_ _)|(with_reducible refine Kd.C_drew ?_)));(case side4 => exact HC0_1.out);rintro e w22 ⟨rfl,hb⟩;refine ⟨_,rfl,?_⟩;have n0_:=Am (blk_below (g:=gb294) (o:=.cells #[.slice A0_0 l0_0.length c0_0,.slice A0_1 l0_1.length c0_1,.int .i64 a0_2,.int .i64 a0_3,.int .i64 a0_4] 26 (0,0)) (by (with_reducible repeat (first|refine kN ?_ _|refine kD ?_|refine kA ?_ _));exact BK294.out) hb);have n1_:=Am (below_step (by repeat (first|(with_reducible first|exact HB.out|apply bA|apply bN|apply bD|refine bS ?_ GE294.out)|exact HB.out)) hb);clear BK294;clear HB;have BK294:=n0_;have HB:=n1_;clear n0_ n1_;(try clear hb);(try clear hb2);(try clear hk);(try clear hi)))
  go_ret
  exact ⟨by first|rfl|(simp [errW_none,errW_some] <;> rfl)|(simp [*,errW_none,errW_some] <;> rfl),by repeat (first|(with_reducible first|exact HB.out|apply bA|apply bN|apply bD|refine bS ?_ GE294.out)|exact HB.out)⟩

/-! ### spec_l2less: function 39 -/
def spec_l2less.f (a0 : Int) (a1 : Int) : Option (Int):=if a0 < a1 then (some 0) else (some (wrap64 (a0 - a1)))
set_option maxHeartbeats 8000000 in
set_option maxRecDepth 100000 in
theorem spec_l2less.calls (a0 : Int) (a1 : Int) (r : Int) (w : World) (h : spec_l2less.f a0 a1 = some r) :
  Calls Try.prog 39 #[.int .i64 a0,.int .i64 a1] w fun e w' => e = .returned (.int .i64 r)∧Drawn0 w w':=by
 have H : (if a0 < a1 then (some 0) else (some (wrap64 (a0 - a1)))) = some r:=h
 clear h
 by_cases c3 : a0 < a1
 ·rw [if_pos c3] at H
  have c3b0 : decide (a0 < a1) = true:=decide_eq_true c3
  clear c3
  obtain rfl:=Option.some.inj H
  go_enter Try.func39,Try.ntmps39
  go_wp2
  go_ret
  exact ⟨by first|rfl|(simp;done)|(simp [*];done),by repeat (first|exact Drawn0.refl _|apply Drawn0.step)⟩
 ·rw [if_neg c3] at H
  have c3b0 : decide (a0 < a1) = false:=decide_eq_false c3
  clear c3
  obtain rfl:=Option.some.inj H
  go_enter Try.func39,Try.ntmps39
  go_wp2
  go_ret
  exact ⟨by first|rfl|(simp;done)|(simp [*];done),by repeat (first|exact Drawn0.refl _|apply Drawn0.step)⟩

/-! ### spec_l2rate: function 40 -/
def spec_l2rate.l0 : Nat → Int → Int → List (S39) → Int → Int → List (S39) → List (S45) → Int → Int → Int → Option (Int)
 | 0,_,_,_,_,_,_,_,_,_,_ => none
 | k + 1,x1,x5,x9,x10,x11,x300000,x300001,x300002,x300003,x300004 => if x11 < x10 then (if 0 ≤ x11 then (if x11 < (x9.length : Int) then (if x1 < (wrap64 (x5 + ((rd_T39 x9 x11).f0))) then (some ((rd_T39 x9 x11).f1)) else (spec_l2rate.l0 k x1 (wrap64 (x5 + ((rd_T39 x9 x11).f0))) x9 x10 (wrap64 (x11 + 1)) x300000 x300001 x300002 x300003 x300004)) else (none)) else (none)) else (if 0 ≤ (wrap64 ((x300000.length : Int) - 1)) then (if (wrap64 ((x300000.length : Int) - 1)) < (x300000.length : Int) then (some ((rd_T39 x300000 (wrap64 ((x300000.length : Int) - 1))).f1)) else (none)) else (none))
def spec_l2rate.f (k : Nat) (l0_0 : List (S39)) (l0_1 : List (S45)) (a0_2 : Int) (a0_3 : Int) (a0_4 : Int) (a1 : Int) : Option (Int):=spec_l2rate.l0 k a1 0 l0_0 (l0_0.length : Int) 0 l0_0 l0_1 a0_2 a0_3 a0_4
theorem spec_l2rate.mono_l : ∀ k,(∀ y0 y1 y2 y3 y4 y5 y6 y7 y8 y9,LeO (spec_l2rate.l0 k y0 y1 y2 y3 y4 y5 y6 y7 y8 y9) (spec_l2rate.l0 (k + 1) y0 y1 y2 y3 y4 y5 y6 y7 y8 y9))
 | 0 => fun _ _ _ _ _ _ _ _ _ _ r h => by simp [spec_l2rate.l0] at h
 | k + 1 => by
  have ih0:=spec_l2rate.mono_l k
  ·intro y0 y1 y2 y3 y4 y5 y6 y7 y8 y9
   unfold spec_l2rate.l0
   repeat' first
   | (with_reducible exact ih0 _ _ _ _ _ _ _ _ _ _)
   | (with_reducible exact LeO.refl _)
   | (with_reducible exact LeO.none _)
   | (with_reducible refine LeO.ite ?_ ?_)
   | (with_reducible refine LeO.bind ?_ (fun _ => ?_))
   | exact ih0 _ _ _ _ _ _ _ _ _ _
   | exact LeO.none _
   | refine LeO.ite ?_ ?_
   | refine LeO.bind ?_ (fun _ => ?_)
theorem spec_l2rate.mono : ∀ a0 a1 a2 a3 a4 a5 k,LeO (spec_l2rate.f k a0 a1 a2 a3 a4 a5) (spec_l2rate.f (k + 1) a0 a1 a2 a3 a4 a5):=by
 intro a0 a1 a2 a3 a4 a5 k
 have ih0:=spec_l2rate.mono_l k
 unfold spec_l2rate.f
 repeat' first
   | (with_reducible exact ih0 _ _ _ _ _ _ _ _ _ _)
   | (with_reducible exact LeO.refl _)
   | (with_reducible exact LeO.none _)
   | (with_reducible refine LeO.ite ?_ ?_)
   | (with_reducible refine LeO.bind ?_ (fun _ => ?_))
   | exact ih0 _ _ _ _ _ _ _ _ _ _
   | exact LeO.none _
   | refine LeO.ite ?_ ?_
   | refine LeO.bind ?_ (fun _ => ?_)
set_option maxHeartbeats 8000000 in
set_option maxRecDepth 100000 in
theorem spec_l2rate.calls (k : Nat) (A0_0 : Option Addr) (c0_0 : Nat) (l0_0 : List (S39)) (A0_1 : Option Addr) (c0_1 : Nat) (l0_1 : List (S45)) (a0_2 : Int) (a0_3 : Int) (a0_4 : Int) (a1 : Int) (r : Int) (w : World) (hr0_0 : Kd.C k39 w A0_0 l0_0.length l0_0) (hc0_0 : l0_0.length ≤ c0_0) (hr0_1 : Kd.C k45 w A0_1 l0_1.length l0_1) (hc0_1 : l0_1.length ≤ c0_1) (h : spec_l2rate.f k l0_0 l0_1 a0_2 a0_3 a0_4 a1 = some r) :
  Calls Try.prog 40 #[.agg #[.slice A0_0 l0_0.length c0_0,.slice A0_1 l0_1.length c0_1,.int .i64 a0_2,.int .i64 a0_3,.int .i64 a0_4],.int .i64 a1] w fun e w' => e = .returned (.int .i64 r)∧Below w.heap.size w w':=by
 have hu26:=Try.underlying26
 have hu39:=Try.underlying39
 have HR0_0:=Am hr0_0
 have HC0_0:=Am hc0_0
 clear hr0_0 hc0_0
 have HR0_1:=Am hr0_1
 have HC0_1:=Am hc0_1
 clear hr0_1 hc0_1
 have HB:=Am (Below.refl w.heap.size w)
 have H : (spec_l2rate.l0 k a1 0 l0_0 (l0_0.length : Int) 0 l0_0 l0_1 a0_2 a0_3 a0_4) = some r:=h
 clear h
 have H':=Am H
 clear H
 go_enter Try.func40,Try.ntmps40
 go_wp2_with (first|((with_reducible refine gate_dst (N:=2) rfl ?_);refine box_event ?hg (N:=2) ?hd (cs:=#[.slice A0_0 l0_0.length c0_0,.slice A0_1 l0_1.length c0_1,.int .i64 a0_2,.int .i64 a0_3,.int .i64 a0_4]) (t:=26) ?hr ?_;(case hd => rfl);(case hg => rfl);(case hr => first|(go_simp;done)|(go_simp;rfl));intro gb299 hg w3 hbox hb;have n0_:=Am (below_step (by repeat (first|(with_reducible first|exact HB.out|apply bA|apply bN|apply bD)|exact HB.out)) hb);have n1_:=Am (hbox);have n2_:=Am ((by rw [hg];exact (below_size (by repeat (first|(with_reducible first|exact HB.out|apply bA|apply bN|apply bD)|exact HB.out))) : w.heap.size ≤ gb299));have n3_:=Am ((by rw [hg];exact (below_size (by repeat (first|(with_reducible first|exact HB.out|apply bA|apply bN|apply bD)|exact HB.out))) : w.heap.size ≤ gb299));clear HB;have HB:=n0_;have BK299:=n1_;have GW299:=n2_;have GE299:=n3_;clear n0_ n1_ n2_ n3_;clear hb hbox hg;have hcz4_0 : w3.cell? ⟨gb299,0,none⟩ = some (.slice A0_0 l0_0.length c0_0):=(kC BK299.out 0).trans rfl;have hcz4_1 : w3.cell? ⟨gb299,1,none⟩ = some (.slice A0_1 l0_1.length c0_1):=(kC BK299.out 1).trans rfl;have hcz4_2 : w3.cell? ⟨gb299,2,none⟩ = some (.int .i64 a0_2):=(kC BK299.out 2).trans rfl;have hcz4_3 : w3.cell? ⟨gb299,3,none⟩ = some (.int .i64 a0_3):=(kC BK299.out 3).trans rfl;have hcz4_4 : w3.cell? ⟨gb299,4,none⟩ = some (.int .i64 a0_4):=(kC BK299.out 4).trans rfl;have hfz4_0:=kF BK299.out 0;have hfz4_1:=kF BK299.out 1;have hfz4_2:=kF BK299.out 2;have hfz4_3:=kF BK299.out 3;have hfz4_4:=kF BK299.out 4))
 go_loopg [5,11] k (fun kq v5 v11 w' => ∃ (x5_1 : Int) (x11_1 : Int),v5 = .int .i64 x5_1∧v11 = .int .i64 x11_1∧As (spec_l2rate.l0 kq a1 x5_1 l0_0 (l0_0.length : Int) x11_1 l0_0 l0_1 a0_2 a0_3 a0_4 = some r)∧As (kq ≤ k)∧As (w'.heap[gb299]? = some (.cells #[(.slice A0_0 l0_0.length c0_0),(.slice A0_1 l0_1.length c0_1),.int .i64 a0_2,.int .i64 a0_3,.int .i64 a0_4] 26 (0,0)))∧As (Below w.heap.size w w'))
 case atStart => exact ⟨(0),(0),(by first|rfl|(simp;done)|(simp [*];done)),(by first|rfl|(simp;done)|(simp [*];done)),H',⟨Nat.le_refl _⟩,⟨by (with_reducible repeat (first|refine kN ?_ _|refine kD ?_|refine kA ?_ _));exact BK299.out⟩,⟨by repeat (first|(with_reducible first|exact HB.out|apply bA|apply bN|apply bD|refine bS ?_ GE299.out)|exact HB.out)⟩⟩
 case round =>
  clear H'
  try clear p2
  try clear c4
  try clear hcz4_0
  try clear hcz4_1
  try clear hcz4_2
  try clear hcz4_3
  try clear hcz4_4
  try clear hfz4_0
  try clear hfz4_1
  try clear hfz4_2
  try clear hfz4_3
  try clear hfz4_4
  obtain ⟨x5_1,x11_1,rfl,rfl,HA,HK1,BK299,HB⟩:=hrel
  cases gk with
  | zero => exact absurd HA.out (by simp [spec_l2rate.l0])
  | succ k1 =>
   have H:=HA.out
   clear HA
   simp only [spec_l2rate.l0] at H
   by_cases c5 : x11_1 < (l0_0.length : Int)
   ·rw [if_pos c5] at H
    have c5b0 : decide (x11_1 < (l0_0.length : Int)) = true:=decide_eq_true c5
    clear c5
    by_cases c6 : 0 ≤ x11_1
    ·rw [if_pos c6] at H
     have c6b0 : decide (0 ≤ x11_1) = true:=decide_eq_true c6
     clear c6
     by_cases c7 : x11_1 < (l0_0.length : Int)
     ·rw [if_pos c7] at H
      have c7b0 : decide (x11_1 < (l0_0.length : Int)) = true:=decide_eq_true c7
      clear c7
      by_cases c8 : a1 < (wrap64 (x5_1 + ((rd_T39 l0_0 x11_1).f0)))
      ·rw [if_pos c8] at H
       have c8b0 : decide (a1 < (wrap64 (x5_1 + ((rd_T39 l0_0 x11_1).f0)))) = true:=decide_eq_true c8
       clear c8
       obtain rfl:=Option.some.inj H
       have p300 : 0 ≤ (x11_1 : Int):=of_decide_eq_true (by first|(with_reducible assumption)|assumption)
       have q300 : x11_1 < (l0_0.length : Int):=of_decide_eq_true (by first|(with_reducible assumption)|assumption)
       obtain ⟨ad300,e300,hx300_0,hx300_1⟩:=at_T39 HR0_0.out x11_1 p300 q300
       cases e300
       replace hx300_0:=(HB.out.cell (World.block_lt_of_cell? w _ hx300_0)).trans hx300_0
       replace hx300_1:=(HB.out.cell (World.block_lt_of_cell? w _ hx300_1)).trans hx300_1
       replace p300:=eq_true p300
       replace q300:=eq_true q300
       go_wp2_with (first|((with_reducible refine gate_dst (N:=7) rfl ?_);refine box_event ?hg (N:=7) ?hd (cs:=#[.int .i64 0,.int .i64 0]) (t:=39) ?hr ?_;(case hd => rfl);(case hg => rfl);(case hr => first|(go_simp;done)|(go_simp;rfl));intro gb301 hg w9 hbox hb;have n0_:=Am (blk_below (g:=gb299) (o:=.cells #[.slice (some ad300) l0_0.length c0_0,.slice A0_1 l0_1.length c0_1,.int .i64 a0_2,.int .i64 a0_3,.int .i64 a0_4] 26 (0,0)) (by (with_reducible repeat (first|refine kN ?_ _|refine kD ?_|refine kA ?_ _));exact BK299.out) hb);have n1_:=Am (below_step (by repeat (first|(with_reducible first|exact HB.out|apply bA|apply bN|apply bD|refine bS ?_ GE299.out)|exact HB.out)) hb);have n2_:=Am (hbox);have n3_:=Am ((by rw [hg];exact (below_size (by repeat (first|(with_reducible first|exact HB.out|apply bA|apply bN|apply bD|refine bS ?_ GE299.out)|exact HB.out))) : w.heap.size ≤ gb301));have n4_:=Am ((by rw [hg];exact (below_size (by repeat (first|(with_reducible first|exact HB.out|apply bA|apply bN|apply bD|refine bS ?_ GE299.out)|exact HB.out))) : w.heap.size ≤ gb301));have n5_:=Am ((by rw [hg];exact Nat.ne_of_lt (blk_lt (g:=gb299) (o:=.cells #[.slice (some ad300) l0_0.length c0_0,.slice A0_1 l0_1.length c0_1,.int .i64 a0_2,.int .i64 a0_3,.int .i64 a0_4] 26 (0,0)) (by (with_reducible repeat (first|refine kN ?_ _|refine kD ?_|refine kA ?_ _));exact BK299.out)) : gb299 ≠ gb301));have n6_:=Am ((by rw [hg];exact Nat.ne_of_gt (blk_lt (g:=gb299) (o:=.cells #[.slice (some ad300) l0_0.length c0_0,.slice A0_1 l0_1.length c0_1,.int .i64 a0_2,.int .i64 a0_3,.int .i64 a0_4] 26 (0,0)) (by (with_reducible repeat (first|refine kN ?_ _|refine kD ?_|refine kA ?_ _));exact BK299.out)) : gb301 ≠ gb299));clear BK299;clear HB;have BK299:=n0_;have HB:=n1_;have BK301:=n2_;have GW301:=n3_;have GE301:=n4_;have NB299_301:=n5_;have NB301_299:=n6_;clear n0_ n1_ n2_ n3_ n4_ n5_ n6_;clear hb hbox hg;have hnb10:=NB301_299.out;have hnc10:=NB299_301.out;have hcz11_0 : w9.cell? ⟨gb301,0,none⟩ = some (.int .i64 0):=(kC BK301.out 0).trans rfl;have hcz11_1 : w9.cell? ⟨gb301,1,none⟩ = some (.int .i64 0):=(kC BK301.out 1).trans rfl;have hfz11_0:=kF BK301.out 0;have hfz11_1:=kF BK301.out 1))
       go_ret
       exact ⟨by first|rfl|(simp [errW_none,errW_some] <;> rfl)|(simp [*,errW_none,errW_some] <;> rfl),by repeat (first|(with_reducible first|exact HB.out|apply bA|apply bN|apply bD|refine bS ?_ GE299.out|refine bS ?_ GE301.out)|exact HB.out)⟩
      ·rw [if_neg c8] at H
       have c8b0 : decide (a1 < (wrap64 (x5_1 + ((rd_T39 l0_0 x11_1).f0)))) = false:=decide_eq_false c8
       clear c8
       have H':=Am H
       clear H
       have p300 : 0 ≤ (x11_1 : Int):=of_decide_eq_true (by first|(with_reducible assumption)|assumption)
       have q300 : x11_1 < (l0_0.length : Int):=of_decide_eq_true (by first|(with_reducible assumption)|assumption)
       obtain ⟨ad300,e300,hx300_0,hx300_1⟩:=at_T39 HR0_0.out x11_1 p300 q300
       cases e300
       replace hx300_0:=(HB.out.cell (World.block_lt_of_cell? w _ hx300_0)).trans hx300_0
       replace hx300_1:=(HB.out.cell (World.block_lt_of_cell? w _ hx300_1)).trans hx300_1
       replace p300:=eq_true p300
       replace q300:=eq_true q300
       go_wp2_with (first|((with_reducible refine gate_dst (N:=7) rfl ?_);refine box_event ?hg (N:=7) ?hd (cs:=#[.int .i64 0,.int .i64 0]) (t:=39) ?hr ?_;(case hd => rfl);(case hg => rfl);(case hr => first|(go_simp;done)|(go_simp;rfl));intro gb301 hg w12 hbox hb;have n0_:=Am (blk_below (g:=gb299) (o:=.cells #[.slice (some ad300) l0_0.length c0_0,.slice A0_1 l0_1.length c0_1,.int .i64 a0_2,.int .i64 a0_3,.int .i64 a0_4] 26 (0,0)) (by (with_reducible repeat (first|refine kN ?_ _|refine kD ?_|refine kA ?_ _));exact BK299.out) hb);have n1_:=Am (below_step (by repeat (first|(with_reducible first|exact HB.out|apply bA|apply bN|apply bD|refine bS ?_ GE299.out)|exact HB.out)) hb);have n2_:=Am (hbox);have n3_:=Am ((by rw [hg];exact (below_size (by repeat (first|(with_reducible first|exact HB.out|apply bA|apply bN|apply bD|refine bS ?_ GE299.out)|exact HB.out))) : w.heap.size ≤ gb301));have n4_:=Am ((by rw [hg];exact (below_size (by repeat (first|(with_reducible first|exact HB.out|apply bA|apply bN|apply bD|refine bS ?_ GE299.out)|exact HB.out))) : w.heap.size ≤ gb301));have n5_:=Am ((by rw [hg];exact Nat.ne_of_lt (blk_lt (g:=gb299) (o:=.cells #[.slice (some ad300) l0_0.length c0_0,.slice A0_1 l0_1.length c0_1,.int .i64 a0_2,.int .i64 a0_3,.int .i64 a0_4] 26 (0,0)) (by (with_reducible repeat (first|refine kN ?_ _|refine kD ?_|refine kA ?_ _));exact BK299.out)) : gb299 ≠ gb301));have n6_:=Am ((by rw [hg];exact Nat.ne_of_gt (blk_lt (g:=gb299) (o:=.cells #[.slice (some ad300) l0_0.length c0_0,.slice A0_1 l0_1.length c0_1,.int .i64 a0_2,.int .i64 a0_3,.int .i64 a0_4] 26 (0,0)) (by (with_reducible repeat (first|refine kN ?_ _|refine kD ?_|refine kA ?_ _));exact BK299.out)) : gb301 ≠ gb299));clear BK299;clear HB;have BK299:=n0_;have HB:=n1_;have BK301:=n2_;have GW301:=n3_;have GE301:=n4_;have NB299_301:=n5_;have NB301_299:=n6_;clear n0_ n1_ n2_ n3_ n4_ n5_ n6_;clear hb hbox hg;have hnb13:=NB301_299.out;have hnc13:=NB299_301.out;have hcz14_0 : w12.cell? ⟨gb301,0,none⟩ = some (.int .i64 0):=(kC BK301.out 0).trans rfl;have hcz14_1 : w12.cell? ⟨gb301,1,none⟩ = some (.int .i64 0):=(kC BK301.out 1).trans rfl;have hfz14_0:=kF BK301.out 0;have hfz14_1:=kF BK301.out 1))
       go_roundg k1
       case measure => have:=HK1.out;omega
       case rel => exact ⟨(wrap64 (x5_1 + ((rd_T39 l0_0 x11_1).f0))),(wrap64 (x11_1 + 1)),(by first|rfl|(simp;done)|(simp [*];done)),(by first|rfl|(simp;done)|(simp [*];done)),H',⟨by have:=HK1.out;omega⟩,⟨by (with_reducible repeat (first|refine kN ?_ _|refine kD ?_|refine kA ?_ _));refine blk_far ?_ NB299_301.out _;(with_reducible repeat (first|refine kN ?_ _|refine kD ?_|refine kA ?_ _));refine blk_far ?_ NB299_301.out _;(with_reducible repeat (first|refine kN ?_ _|refine kD ?_|refine kA ?_ _));exact BK299.out⟩,⟨by repeat (first|(with_reducible first|exact HB.out|apply bA|apply bN|apply bD|refine bS ?_ GE299.out|refine bS ?_ GE301.out)|exact HB.out)⟩⟩
     ·rw [if_neg c7] at H
      exact absurd H (by simp)
    ·rw [if_neg c6] at H
     exact absurd H (by simp)
   ·rw [if_neg c5] at H
    have c5b0 : decide (x11_1 < (l0_0.length : Int)) = false:=decide_eq_false c5
    clear c5
    obtain ⟨ji15,hji15⟩ : ∃ j_ : Int,(wrap64 ((l0_0.length : Int) - 1)) = j_:=⟨_,rfl⟩
    replace H : (if 0 ≤ (ji15) then (if (ji15) < (l0_0.length : Int) then (some ((rd_T39 l0_0 (ji15)).f1)) else (none)) else (none)) = some r:=by first|(rw [hji15] at H;exact H)|(simp only [hji15] at H ⊢;exact H)
    have hji15w : (IntKind.i64.wrap ((l0_0.length : Int) - 1)) = ji15:=(i64_w _).trans hji15
    by_cases c16 : 0 ≤ (ji15)
    ·rw [if_pos c16] at H
     have c16b0 : decide (0 ≤ (ji15)) = true:=decide_eq_true c16
     clear c16
     by_cases c17 : (ji15) < (l0_0.length : Int)
     ·rw [if_pos c17] at H
      have c17b0 : decide ((ji15) < (l0_0.length : Int)) = true:=decide_eq_true c17
      clear c17
      obtain rfl:=Option.some.inj H
      have hcz18_0 : wr.cell? ⟨gb299,0,none⟩ = some (.slice A0_0 l0_0.length c0_0):=(kC BK299.out 0).trans rfl
      have hcz18_1 : wr.cell? ⟨gb299,1,none⟩ = some (.slice A0_1 l0_1.length c0_1):=(kC BK299.out 1).trans rfl
      have hcz18_2 : wr.cell? ⟨gb299,2,none⟩ = some (.int .i64 a0_2):=(kC BK299.out 2).trans rfl
      have hcz18_3 : wr.cell? ⟨gb299,3,none⟩ = some (.int .i64 a0_3):=(kC BK299.out 3).trans rfl
      have hcz18_4 : wr.cell? ⟨gb299,4,none⟩ = some (.int .i64 a0_4):=(kC BK299.out 4).trans rfl
      have hfz18_0:=kF BK299.out 0
      have hfz18_1:=kF BK299.out 1
      have hfz18_2:=kF BK299.out 2
      have hfz18_3:=kF BK299.out 3
      have hfz18_4:=kF BK299.out 4
      have p302 : 0 ≤ ((ji15) : Int):=of_decide_eq_true (by first|(with_reducible assumption)|assumption)
      have q302 : (ji15) < (l0_0.length : Int):=of_decide_eq_true (by first|(with_reducible assumption)|assumption)
      obtain ⟨ad302,e302,hx302_0,hx302_1⟩:=at_T39 HR0_0.out (ji15) p302 q302
      cases e302
      replace hx302_0:=(HB.out.cell (World.block_lt_of_cell? w _ hx302_0)).trans hx302_0
      replace hx302_1:=(HB.out.cell (World.block_lt_of_cell? w _ hx302_1)).trans hx302_1
      replace p302:=eq_true p302
      replace q302:=eq_true q302
      go_wp2
      go_ret
      exact ⟨by first|rfl|(simp [errW_none,errW_some] <;> rfl)|(simp only [← hji15];first|rfl|(simp [errW_none,errW_some] <;> rfl))|(simp [*,errW_none,errW_some] <;> rfl),by repeat (first|(with_reducible first|exact HB.out|apply bA|apply bN|apply bD|refine bS ?_ GE299.out)|exact HB.out)⟩
     ·rw [if_neg c17] at H
      exact absurd H (by simp)
    ·rw [if_neg c16] at H
     exact absurd H (by simp)

/-! ### spec_l2over: function 64 -/
def spec_l2over.l0 : Nat → Int → Int → Int → List (S45) → Int → Int → List (S39) → List (S45) → Int → Int → Int → Option (Int)
 | 0,_,_,_,_,_,_,_,_,_,_,_ => none
 | k + 1,x1,x2,x7,x11,x12,x13,x304000,x304001,x304002,x304003,x304004 => if x13 < x12 then (if 0 ≤ x13 then (if x13 < (x11.length : Int) then (if ((rd_T45 x11 x13).f0) ≤ x2 then (if x1 ≤ (wrap64 (((rd_T45 x11 x13).f1) + x304002)) then (if ((rd_T45 x11 x13).f2) < x7 then (spec_l2over.l0 k x1 x2 ((rd_T45 x11 x13).f2) x11 x12 (wrap64 (x13 + 1)) x304000 x304001 x304002 x304003 x304004) else (spec_l2over.l0 k x1 x2 x7 x11 x12 (wrap64 (x13 + 1)) x304000 x304001 x304002 x304003 x304004)) else (spec_l2over.l0 k x1 x2 x7 x11 x12 (wrap64 (x13 + 1)) x304000 x304001 x304002 x304003 x304004)) else (spec_l2over.l0 k x1 x2 x7 x11 x12 (wrap64 (x13 + 1)) x304000 x304001 x304002 x304003 x304004)) else (none)) else (none)) else (some x7)
def spec_l2over.f (k : Nat) (l0_0 : List (S39)) (l0_1 : List (S45)) (a0_2 : Int) (a0_3 : Int) (a0_4 : Int) (a1 : Int) (a2 : Int) : Option (Int):=spec_l2over.l0 k a1 a2 10000 l0_1 (l0_1.length : Int) 0 l0_0 l0_1 a0_2 a0_3 a0_4
theorem spec_l2over.mono_l : ∀ k,(∀ y0 y1 y2 y3 y4 y5 y6 y7 y8 y9 y10,LeO (spec_l2over.l0 k y0 y1 y2 y3 y4 y5 y6 y7 y8 y9 y10) (spec_l2over.l0 (k + 1) y0 y1 y2 y3 y4 y5 y6 y7 y8 y9 y10))
 | 0 => fun _ _ _ _ _ _ _ _ _ _ _ r h => by simp [spec_l2over.l0] at h
 | k + 1 => by
  have ih0:=spec_l2over.mono_l k
  ·intro y0 y1 y2 y3 y4 y5 y6 y7 y8 y9 y10
   unfold spec_l2over.l0
   repeat' first
   | (with_reducible exact ih0 _ _ _ _ _ _ _ _ _ _ _)
   | (with_reducible exact LeO.refl _)
   | (with_reducible exact LeO.none _)
   | (with_reducible refine LeO.ite ?_ ?_)
   | (with_reducible refine LeO.bind ?_ (fun _ => ?_))
   | exact ih0 _ _ _ _ _ _ _ _ _ _ _
   | exact LeO.none _
   | refine LeO.ite ?_ ?_
   | refine LeO.bind ?_ (fun _ => ?_)
theorem spec_l2over.mono : ∀ a0 a1 a2 a3 a4 a5 a6 k,LeO (spec_l2over.f k a0 a1 a2 a3 a4 a5 a6) (spec_l2over.f (k + 1) a0 a1 a2 a3 a4 a5 a6):=by
 intro a0 a1 a2 a3 a4 a5 a6 k
 have ih0:=spec_l2over.mono_l k
 unfold spec_l2over.f
 repeat' first
   | (with_reducible exact ih0 _ _ _ _ _ _ _ _ _ _ _)
   | (with_reducible exact LeO.refl _)
   | (with_reducible exact LeO.none _)
   | (with_reducible refine LeO.ite ?_ ?_)
   | (with_reducible refine LeO.bind ?_ (fun _ => ?_))
   | exact ih0 _ _ _ _ _ _ _ _ _ _ _
   | exact LeO.none _
   | refine LeO.ite ?_ ?_
   | refine LeO.bind ?_ (fun _ => ?_)
set_option maxHeartbeats 8000000 in
set_option maxRecDepth 100000 in
theorem spec_l2over.calls (k : Nat) (A0_0 : Option Addr) (c0_0 : Nat) (l0_0 : List (S39)) (A0_1 : Option Addr) (c0_1 : Nat) (l0_1 : List (S45)) (a0_2 : Int) (a0_3 : Int) (a0_4 : Int) (a1 : Int) (a2 : Int) (r : Int) (w : World) (hr0_0 : Kd.C k39 w A0_0 l0_0.length l0_0) (hc0_0 : l0_0.length ≤ c0_0) (hr0_1 : Kd.C k45 w A0_1 l0_1.length l0_1) (hc0_1 : l0_1.length ≤ c0_1) (h : spec_l2over.f k l0_0 l0_1 a0_2 a0_3 a0_4 a1 a2 = some r) :
  Calls Try.prog 64 #[.agg #[.slice A0_0 l0_0.length c0_0,.slice A0_1 l0_1.length c0_1,.int .i64 a0_2,.int .i64 a0_3,.int .i64 a0_4],.int .i64 a1,.int .i64 a2] w fun e w' => e = .returned (.int .i64 r)∧Below w.heap.size w w':=by
 have hu26:=Try.underlying26
 have hu45:=Try.underlying45
 have HR0_0:=Am hr0_0
 have HC0_0:=Am hc0_0
 clear hr0_0 hc0_0
 have HR0_1:=Am hr0_1
 have HC0_1:=Am hc0_1
 clear hr0_1 hc0_1
 have HB:=Am (Below.refl w.heap.size w)
 have H : (spec_l2over.l0 k a1 a2 10000 l0_1 (l0_1.length : Int) 0 l0_0 l0_1 a0_2 a0_3 a0_4) = some r:=h
 clear h
 have H':=Am H
 clear H
 go_enter Try.func64,Try.ntmps64
 go_wp2_with (first|((with_reducible refine gate_dst (N:=3) rfl ?_);refine box_event ?hg (N:=3) ?hd (cs:=#[.slice A0_0 l0_0.length c0_0,.slice A0_1 l0_1.length c0_1,.int .i64 a0_2,.int .i64 a0_3,.int .i64 a0_4]) (t:=26) ?hr ?_;(case hd => rfl);(case hg => rfl);(case hr => first|(go_simp;done)|(go_simp;rfl));intro gb303 hg w4 hbox hb;have n0_:=Am (below_step (by repeat (first|(with_reducible first|exact HB.out|apply bA|apply bN|apply bD)|exact HB.out)) hb);have n1_:=Am (hbox);have n2_:=Am ((by rw [hg];exact (below_size (by repeat (first|(with_reducible first|exact HB.out|apply bA|apply bN|apply bD)|exact HB.out))) : w.heap.size ≤ gb303));have n3_:=Am ((by rw [hg];exact (below_size (by repeat (first|(with_reducible first|exact HB.out|apply bA|apply bN|apply bD)|exact HB.out))) : w.heap.size ≤ gb303));clear HB;have HB:=n0_;have BK303:=n1_;have GW303:=n2_;have GE303:=n3_;clear n0_ n1_ n2_ n3_;clear hb hbox hg;have hcz5_0 : w4.cell? ⟨gb303,0,none⟩ = some (.slice A0_0 l0_0.length c0_0):=(kC BK303.out 0).trans rfl;have hcz5_1 : w4.cell? ⟨gb303,1,none⟩ = some (.slice A0_1 l0_1.length c0_1):=(kC BK303.out 1).trans rfl;have hcz5_2 : w4.cell? ⟨gb303,2,none⟩ = some (.int .i64 a0_2):=(kC BK303.out 2).trans rfl;have hcz5_3 : w4.cell? ⟨gb303,3,none⟩ = some (.int .i64 a0_3):=(kC BK303.out 3).trans rfl;have hcz5_4 : w4.cell? ⟨gb303,4,none⟩ = some (.int .i64 a0_4):=(kC BK303.out 4).trans rfl;have hfz5_0:=kF BK303.out 0;have hfz5_1:=kF BK303.out 1;have hfz5_2:=kF BK303.out 2;have hfz5_3:=kF BK303.out 3;have hfz5_4:=kF BK303.out 4))
 go_loopg [7,13] k (fun kq v7 v13 w' => ∃ (x7_1 : Int) (x13_1 : Int),v7 = .int .i64 x7_1∧v13 = .int .i64 x13_1∧As (spec_l2over.l0 kq a1 a2 x7_1 l0_1 (l0_1.length : Int) x13_1 l0_0 l0_1 a0_2 a0_3 a0_4 = some r)∧As (kq ≤ k)∧As (w'.heap[gb303]? = some (.cells #[(.slice A0_0 l0_0.length c0_0),(.slice A0_1 l0_1.length c0_1),.int .i64 a0_2,.int .i64 a0_3,.int .i64 a0_4] 26 (0,0)))∧As (Below w.heap.size w w'))
 case atStart => exact ⟨(10000),(0),(by first|rfl|(simp;done)|(simp [*];done)),(by first|rfl|(simp;done)|(simp [*];done)),H',⟨Nat.le_refl _⟩,⟨by (with_reducible repeat (first|refine kN ?_ _|refine kD ?_|refine kA ?_ _));exact BK303.out⟩,⟨by repeat (first|(with_reducible first|exact HB.out|apply bA|apply bN|apply bD|refine bS ?_ GE303.out)|exact HB.out)⟩⟩
 case round =>
  clear H'
  try clear p2
  try clear hcz5_0
  try clear hcz5_1
  try clear hcz5_2
  try clear hcz5_3
  try clear hcz5_4
  try clear hfz5_0
  try clear hfz5_1
  try clear hfz5_2
  try clear hfz5_3
  try clear hfz5_4
  obtain ⟨x7_1,x13_1,rfl,rfl,HA,HK1,BK303,HB⟩:=hrel
  cases gk with
  | zero => exact absurd HA.out (by simp [spec_l2over.l0])
  | succ k1 =>
   have H:=HA.out
   clear HA
   simp only [spec_l2over.l0] at H
   by_cases c6 : x13_1 < (l0_1.length : Int)
   ·rw [if_pos c6] at H
    have c6b0 : decide (x13_1 < (l0_1.length : Int)) = true:=decide_eq_true c6
    clear c6
    by_cases c7 : 0 ≤ x13_1
    ·rw [if_pos c7] at H
     have c7b0 : decide (0 ≤ x13_1) = true:=decide_eq_true c7
     clear c7
     by_cases c8 : x13_1 < (l0_1.length : Int)
     ·rw [if_pos c8] at H
      have c8b0 : decide (x13_1 < (l0_1.length : Int)) = true:=decide_eq_true c8
      clear c8
      by_cases c9 : ((rd_T45 l0_1 x13_1).f0) ≤ a2
      ·rw [if_pos c9] at H
       have c9b0 : decide (((rd_T45 l0_1 x13_1).f0) ≤ a2) = true:=decide_eq_true c9
       clear c9
       by_cases c10 : a1 ≤ (wrap64 (((rd_T45 l0_1 x13_1).f1) + a0_2))
       ·rw [if_pos c10] at H
        have c10b0 : decide (a1 ≤ (wrap64 (((rd_T45 l0_1 x13_1).f1) + a0_2))) = true:=decide_eq_true c10
        clear c10
        by_cases c11 : ((rd_T45 l0_1 x13_1).f2) < x7_1
        ·rw [if_pos c11] at H
         have c11b0 : decide (((rd_T45 l0_1 x13_1).f2) < x7_1) = true:=decide_eq_true c11
         clear c11
         have H':=Am H
         clear H
         have p304 : 0 ≤ (x13_1 : Int):=of_decide_eq_true (by first|(with_reducible assumption)|assumption)
         have q304 : x13_1 < (l0_1.length : Int):=of_decide_eq_true (by first|(with_reducible assumption)|assumption)
         obtain ⟨ad304,e304,hx304_0,hx304_1,hx304_2⟩:=at_T45 HR0_1.out x13_1 p304 q304
         cases e304
         replace hx304_0:=(HB.out.cell (World.block_lt_of_cell? w _ hx304_0)).trans hx304_0
         replace hx304_1:=(HB.out.cell (World.block_lt_of_cell? w _ hx304_1)).trans hx304_1
         replace hx304_2:=(HB.out.cell (World.block_lt_of_cell? w _ hx304_2)).trans hx304_2
         replace p304:=eq_true p304
         replace q304:=eq_true q304
         go_wp2_with (first|((with_reducible refine gate_dst (N:=9) rfl ?_);refine box_event ?hg (N:=9) ?hd (cs:=#[.int .i64 0,.int .i64 0,.int .i64 0]) (t:=45) ?hr ?_;(case hd => rfl);(case hg => rfl);(case hr => first|(go_simp;done)|(go_simp;rfl));intro gb305 hg w12 hbox hb;have n0_:=Am (blk_below (g:=gb303) (o:=.cells #[.slice A0_0 l0_0.length c0_0,.slice (some ad304) l0_1.length c0_1,.int .i64 a0_2,.int .i64 a0_3,.int .i64 a0_4] 26 (0,0)) (by (with_reducible repeat (first|refine kN ?_ _|refine kD ?_|refine kA ?_ _));exact BK303.out) hb);have n1_:=Am (below_step (by repeat (first|(with_reducible first|exact HB.out|apply bA|apply bN|apply bD|refine bS ?_ GE303.out)|exact HB.out)) hb);have n2_:=Am (hbox);have n3_:=Am ((by rw [hg];exact (below_size (by repeat (first|(with_reducible first|exact HB.out|apply bA|apply bN|apply bD|refine bS ?_ GE303.out)|exact HB.out))) : w.heap.size ≤ gb305));have n4_:=Am ((by rw [hg];exact (below_size (by repeat (first|(with_reducible first|exact HB.out|apply bA|apply bN|apply bD|refine bS ?_ GE303.out)|exact HB.out))) : w.heap.size ≤ gb305));have n5_:=Am ((by rw [hg];exact Nat.ne_of_lt (blk_lt (g:=gb303) (o:=.cells #[.slice A0_0 l0_0.length c0_0,.slice (some ad304) l0_1.length c0_1,.int .i64 a0_2,.int .i64 a0_3,.int .i64 a0_4] 26 (0,0)) (by (with_reducible repeat (first|refine kN ?_ _|refine kD ?_|refine kA ?_ _));exact BK303.out)) : gb303 ≠ gb305));have n6_:=Am ((by rw [hg];exact Nat.ne_of_gt (blk_lt (g:=gb303) (o:=.cells #[.slice A0_0 l0_0.length c0_0,.slice (some ad304) l0_1.length c0_1,.int .i64 a0_2,.int .i64 a0_3,.int .i64 a0_4] 26 (0,0)) (by (with_reducible repeat (first|refine kN ?_ _|refine kD ?_|refine kA ?_ _));exact BK303.out)) : gb305 ≠ gb303));clear BK303;clear HB;have BK303:=n0_;have HB:=n1_;have BK305:=n2_;have GW305:=n3_;have GE305:=n4_;have NB303_305:=n5_;have NB305_303:=n6_;clear n0_ n1_ n2_ n3_ n4_ n5_ n6_;clear hb hbox hg;have hnb13:=NB305_303.out;have hnc13:=NB303_305.out;have hcz14_0 : w12.cell? ⟨gb305,0,none⟩ = some (.int .i64 0):=(kC BK305.out 0).trans rfl;have hcz14_1 : w12.cell? ⟨gb305,1,none⟩ = some (.int .i64 0):=(kC BK305.out 1).trans rfl;have hcz14_2 : w12.cell? ⟨gb305,2,none⟩ = some (.int .i64 0):=(kC BK305.out 2).trans rfl;have hfz14_0:=kF BK305.out 0;have hfz14_1:=kF BK305.out 1;have hfz14_2:=kF BK305.out 2;have hcz15_0 : w12.cell? ⟨gb303,0,none⟩ = some (.slice A0_0 l0_0.length c0_0):=(kC BK303.out 0).trans rfl;have hcz15_1 : w12.cell? ⟨gb303,1,none⟩ = some (.slice (some ad304) l0_1.length c0_1):=(kC BK303.out 1).trans rfl;have hcz15_2 : w12.cell? ⟨gb303,2,none⟩ = some (.int .i64 a0_2):=(kC BK303.out 2).trans rfl;have hcz15_3 : w12.cell? ⟨gb303,3,none⟩ = some (.int .i64 a0_3):=(kC BK303.out 3).trans rfl;have hcz15_4 : w12.cell? ⟨gb303,4,none⟩ = some (.int .i64 a0_4):=(kC BK303.out 4).trans rfl;have hfz15_0:=kF BK303.out 0;have hfz15_1:=kF BK303.out 1;have hfz15_2:=kF BK303.out 2;have hfz15_3:=kF BK303.out 3;have hfz15_4:=kF BK303.out 4))
         go_roundg k1
         case measure => have:=HK1.out;omega
         case rel => exact ⟨((rd_T45 l0_1 x13_1).f2),(wrap64 (x13_1 + 1)),(by first|rfl|(simp;done)|(simp [*];done)),(by first|rfl|(simp;done)|(simp [*];done)),H',⟨by have:=HK1.out;omega⟩,⟨by (with_reducible repeat (first|refine kN ?_ _|refine kD ?_|refine kA ?_ _));refine blk_far ?_ NB303_305.out _;(with_reducible repeat (first|refine kN ?_ _|refine kD ?_|refine kA ?_ _));refine blk_far ?_ NB303_305.out _;(with_reducible repeat (first|refine kN ?_ _|refine kD ?_|refine kA ?_ _));refine blk_far ?_ NB303_305.out _;(with_reducible repeat (first|refine kN ?_ _|refine kD ?_|refine kA ?_ _));exact BK303.out⟩,⟨by repeat (first|(with_reducible first|exact HB.out|apply bA|apply bN|apply bD|refine bS ?_ GE303.out|refine bS ?_ GE305.out)|exact HB.out)⟩⟩
        ·rw [if_neg c11] at H
         have c11b0 : decide (((rd_T45 l0_1 x13_1).f2) < x7_1) = false:=decide_eq_false c11
         clear c11
         have H':=Am H
         clear H
         have p304 : 0 ≤ (x13_1 : Int):=of_decide_eq_true (by first|(with_reducible assumption)|assumption)
         have q304 : x13_1 < (l0_1.length : Int):=of_decide_eq_true (by first|(with_reducible assumption)|assumption)
         obtain ⟨ad304,e304,hx304_0,hx304_1,hx304_2⟩:=at_T45 HR0_1.out x13_1 p304 q304
         cases e304
         replace hx304_0:=(HB.out.cell (World.block_lt_of_cell? w _ hx304_0)).trans hx304_0
         replace hx304_1:=(HB.out.cell (World.block_lt_of_cell? w _ hx304_1)).trans hx304_1
         replace hx304_2:=(HB.out.cell (World.block_lt_of_cell? w _ hx304_2)).trans hx304_2
         replace p304:=eq_true p304
         replace q304:=eq_true q304
         go_wp2_with (first|((with_reducible refine gate_dst (N:=9) rfl ?_);refine box_event ?hg (N:=9) ?hd (cs:=#[.int .i64 0,.int .i64 0,.int .i64 0]) (t:=45) ?hr ?_;(case hd => rfl);(case hg => rfl);(case hr => first|(go_simp;done)|(go_simp;rfl));intro gb305 hg w16 hbox hb;have n0_:=Am (blk_below (g:=gb303) (o:=.cells #[.slice A0_0 l0_0.length c0_0,.slice (some ad304) l0_1.length c0_1,.int .i64 a0_2,.int .i64 a0_3,.int .i64 a0_4] 26 (0,0)) (by (with_reducible repeat (first|refine kN ?_ _|refine kD ?_|refine kA ?_ _));exact BK303.out) hb);have n1_:=Am (below_step (by repeat (first|(with_reducible first|exact HB.out|apply bA|apply bN|apply bD|refine bS ?_ GE303.out)|exact HB.out)) hb);have n2_:=Am (hbox);have n3_:=Am ((by rw [hg];exact (below_size (by repeat (first|(with_reducible first|exact HB.out|apply bA|apply bN|apply bD|refine bS ?_ GE303.out)|exact HB.out))) : w.heap.size ≤ gb305));have n4_:=Am ((by rw [hg];exact (below_size (by repeat (first|(with_reducible first|exact HB.out|apply bA|apply bN|apply bD|refine bS ?_ GE303.out)|exact HB.out))) : w.heap.size ≤ gb305));have n5_:=Am ((by rw [hg];exact Nat.ne_of_lt (blk_lt (g:=gb303) (o:=.cells #[.slice A0_0 l0_0.length c0_0,.slice (some ad304) l0_1.length c0_1,.int .i64 a0_2,.int .i64 a0_3,.int .i64 a0_4] 26 (0,0)) (by (with_reducible repeat (first|refine kN ?_ _|refine kD ?_|refine kA ?_ _));exact BK303.out)) : gb303 ≠ gb305));have n6_:=Am ((by rw [hg];exact Nat.ne_of_gt (blk_lt (g:=gb303) (o:=.cells #[.slice A0_0 l0_0.length c0_0,.slice (some ad304) l0_1.length c0_1,.int .i64 a0_2,.int .i64 a0_3,.int .i64 a0_4] 26 (0,0)) (by (with_reducible repeat (first|refine kN ?_ _|refine kD ?_|refine kA ?_ _));exact BK303.out)) : gb305 ≠ gb303));clear BK303;clear HB;have BK303:=n0_;have HB:=n1_;have BK305:=n2_;have GW305:=n3_;have GE305:=n4_;have NB303_305:=n5_;have NB305_303:=n6_;clear n0_ n1_ n2_ n3_ n4_ n5_ n6_;clear hb hbox hg;have hnb17:=NB305_303.out;have hnc17:=NB303_305.out;have hcz18_0 : w16.cell? ⟨gb305,0,none⟩ = some (.int .i64 0):=(kC BK305.out 0).trans rfl;have hcz18_1 : w16.cell? ⟨gb305,1,none⟩ = some (.int .i64 0):=(kC BK305.out 1).trans rfl;have hcz18_2 : w16.cell? ⟨gb305,2,none⟩ = some (.int .i64 0):=(kC BK305.out 2).trans rfl;have hfz18_0:=kF BK305.out 0;have hfz18_1:=kF BK305.out 1;have hfz18_2:=kF BK305.out 2;have hcz19_0 : w16.cell? ⟨gb303,0,none⟩ = some (.slice A0_0 l0_0.length c0_0):=(kC BK303.out 0).trans rfl;have hcz19_1 : w16.cell? ⟨gb303,1,none⟩ = some (.slice (some ad304) l0_1.length c0_1):=(kC BK303.out 1).trans rfl;have hcz19_2 : w16.cell? ⟨gb303,2,none⟩ = some (.int .i64 a0_2):=(kC BK303.out 2).trans rfl;have hcz19_3 : w16.cell? ⟨gb303,3,none⟩ = some (.int .i64 a0_3):=(kC BK303.out 3).trans rfl;have hcz19_4 : w16.cell? ⟨gb303,4,none⟩ = some (.int .i64 a0_4):=(kC BK303.out 4).trans rfl;have hfz19_0:=kF BK303.out 0;have hfz19_1:=kF BK303.out 1;have hfz19_2:=kF BK303.out 2;have hfz19_3:=kF BK303.out 3;have hfz19_4:=kF BK303.out 4))
         go_roundg k1
         case measure => have:=HK1.out;omega
         case rel => exact ⟨(x7_1),(wrap64 (x13_1 + 1)),(by first|rfl|(simp;done)|(simp [*];done)),(by first|rfl|(simp;done)|(simp [*];done)),H',⟨by have:=HK1.out;omega⟩,⟨by (with_reducible repeat (first|refine kN ?_ _|refine kD ?_|refine kA ?_ _));refine blk_far ?_ NB303_305.out _;(with_reducible repeat (first|refine kN ?_ _|refine kD ?_|refine kA ?_ _));refine blk_far ?_ NB303_305.out _;(with_reducible repeat (first|refine kN ?_ _|refine kD ?_|refine kA ?_ _));refine blk_far ?_ NB303_305.out _;(with_reducible repeat (first|refine kN ?_ _|refine kD ?_|refine kA ?_ _));exact BK303.out⟩,⟨by repeat (first|(with_reducible first|exact HB.out|apply bA|apply bN|apply bD|refine bS ?_ GE303.out|refine bS ?_ GE305.out)|exact HB.out)⟩⟩
       ·rw [if_neg c10] at H
        have c10b0 : decide (a1 ≤ (wrap64 (((rd_T45 l0_1 x13_1).f1) + a0_2))) = false:=decide_eq_false c10
        clear c10
        have H':=Am H
        clear H
        have p304 : 0 ≤ (x13_1 : Int):=of_decide_eq_true (by first|(with_reducible assumption)|assumption)
        have q304 : x13_1 < (l0_1.length : Int):=of_decide_eq_true (by first|(with_reducible assumption)|assumption)
        obtain ⟨ad304,e304,hx304_0,hx304_1,hx304_2⟩:=at_T45 HR0_1.out x13_1 p304 q304
        cases e304
        replace hx304_0:=(HB.out.cell (World.block_lt_of_cell? w _ hx304_0)).trans hx304_0
        replace hx304_1:=(HB.out.cell (World.block_lt_of_cell? w _ hx304_1)).trans hx304_1
        replace hx304_2:=(HB.out.cell (World.block_lt_of_cell? w _ hx304_2)).trans hx304_2
        replace p304:=eq_true p304
        replace q304:=eq_true q304
        go_wp2_with (first|((with_reducible refine gate_dst (N:=9) rfl ?_);refine box_event ?hg (N:=9) ?hd (cs:=#[.int .i64 0,.int .i64 0,.int .i64 0]) (t:=45) ?hr ?_;(case hd => rfl);(case hg => rfl);(case hr => first|(go_simp;done)|(go_simp;rfl));intro gb305 hg w20 hbox hb;have n0_:=Am (blk_below (g:=gb303) (o:=.cells #[.slice A0_0 l0_0.length c0_0,.slice (some ad304) l0_1.length c0_1,.int .i64 a0_2,.int .i64 a0_3,.int .i64 a0_4] 26 (0,0)) (by (with_reducible repeat (first|refine kN ?_ _|refine kD ?_|refine kA ?_ _));exact BK303.out) hb);have n1_:=Am (below_step (by repeat (first|(with_reducible first|exact HB.out|apply bA|apply bN|apply bD|refine bS ?_ GE303.out)|exact HB.out)) hb);have n2_:=Am (hbox);have n3_:=Am ((by rw [hg];exact (below_size (by repeat (first|(with_reducible first|exact HB.out|apply bA|apply bN|apply bD|refine bS ?_ GE303.out)|exact HB.out))) : w.heap.size ≤ gb305));have n4_:=Am ((by rw [hg];exact (below_size (by repeat (first|(with_reducible first|exact HB.out|apply bA|apply bN|apply bD|refine bS ?_ GE303.out)|exact HB.out))) : w.heap.size ≤ gb305));have n5_:=Am ((by rw [hg];exact Nat.ne_of_lt (blk_lt (g:=gb303) (o:=.cells #[.slice A0_0 l0_0.length c0_0,.slice (some ad304) l0_1.length c0_1,.int .i64 a0_2,.int .i64 a0_3,.int .i64 a0_4] 26 (0,0)) (by (with_reducible repeat (first|refine kN ?_ _|refine kD ?_|refine kA ?_ _));exact BK303.out)) : gb303 ≠ gb305));have n6_:=Am ((by rw [hg];exact Nat.ne_of_gt (blk_lt (g:=gb303) (o:=.cells #[.slice A0_0 l0_0.length c0_0,.slice (some ad304) l0_1.length c0_1,.int .i64 a0_2,.int .i64 a0_3,.int .i64 a0_4] 26 (0,0)) (by (with_reducible repeat (first|refine kN ?_ _|refine kD ?_|refine kA ?_ _));exact BK303.out)) : gb305 ≠ gb303));clear BK303;clear HB;have BK303:=n0_;have HB:=n1_;have BK305:=n2_;have GW305:=n3_;have GE305:=n4_;have NB303_305:=n5_;have NB305_303:=n6_;clear n0_ n1_ n2_ n3_ n4_ n5_ n6_;clear hb hbox hg;have hnb21:=NB305_303.out;have hnc21:=NB303_305.out;have hcz22_0 : w20.cell? ⟨gb305,0,none⟩ = some (.int .i64 0):=(kC BK305.out 0).trans rfl;have hcz22_1 : w20.cell? ⟨gb305,1,none⟩ = some (.int .i64 0):=(kC BK305.out 1).trans rfl;have hcz22_2 : w20.cell? ⟨gb305,2,none⟩ = some (.int .i64 0):=(kC BK305.out 2).trans rfl;have hfz22_0:=kF BK305.out 0;have hfz22_1:=kF BK305.out 1;have hfz22_2:=kF BK305.out 2;have hcz23_0 : w20.cell? ⟨gb303,0,none⟩ = some (.slice A0_0 l0_0.length c0_0):=(kC BK303.out 0).trans rfl;have hcz23_1 : w20.cell? ⟨gb303,1,none⟩ = some (.slice (some ad304) l0_1.length c0_1):=(kC BK303.out 1).trans rfl;have hcz23_2 : w20.cell? ⟨gb303,2,none⟩ = some (.int .i64 a0_2):=(kC BK303.out 2).trans rfl;have hcz23_3 : w20.cell? ⟨gb303,3,none⟩ = some (.int .i64 a0_3):=(kC BK303.out 3).trans rfl;have hcz23_4 : w20.cell? ⟨gb303,4,none⟩ = some (.int .i64 a0_4):=(kC BK303.out 4).trans rfl;have hfz23_0:=kF BK303.out 0;have hfz23_1:=kF BK303.out 1;have hfz23_2:=kF BK303.out 2;have hfz23_3:=kF BK303.out 3;have hfz23_4:=kF BK303.out 4))
        go_roundg k1
        case measure => have:=HK1.out;omega
        case rel => exact ⟨(x7_1),(wrap64 (x13_1 + 1)),(by first|rfl|(simp;done)|(simp [*];done)),(by first|rfl|(simp;done)|(simp [*];done)),H',⟨by have:=HK1.out;omega⟩,⟨by (with_reducible repeat (first|refine kN ?_ _|refine kD ?_|refine kA ?_ _));refine blk_far ?_ NB303_305.out _;(with_reducible repeat (first|refine kN ?_ _|refine kD ?_|refine kA ?_ _));refine blk_far ?_ NB303_305.out _;(with_reducible repeat (first|refine kN ?_ _|refine kD ?_|refine kA ?_ _));refine blk_far ?_ NB303_305.out _;(with_reducible repeat (first|refine kN ?_ _|refine kD ?_|refine kA ?_ _));exact BK303.out⟩,⟨by repeat (first|(with_reducible first|exact HB.out|apply bA|apply bN|apply bD|refine bS ?_ GE303.out|refine bS ?_ GE305.out)|exact HB.out)⟩⟩
      ·rw [if_neg c9] at H
       have c9b0 : decide (((rd_T45 l0_1 x13_1).f0) ≤ a2) = false:=decide_eq_false c9
       clear c9
       have H':=Am H
       clear H
       have p304 : 0 ≤ (x13_1 : Int):=of_decide_eq_true (by first|(with_reducible assumption)|assumption)
       have q304 : x13_1 < (l0_1.length : Int):=of_decide_eq_true (by first|(with_reducible assumption)|assumption)
       obtain ⟨ad304,e304,hx304_0,hx304_1,hx304_2⟩:=at_T45 HR0_1.out x13_1 p304 q304
       cases e304
       replace hx304_0:=(HB.out.cell (World.block_lt_of_cell? w _ hx304_0)).trans hx304_0
       replace hx304_1:=(HB.out.cell (World.block_lt_of_cell? w _ hx304_1)).trans hx304_1
       replace hx304_2:=(HB.out.cell (World.block_lt_of_cell? w _ hx304_2)).trans hx304_2
       replace p304:=eq_true p304
       replace q304:=eq_true q304
       go_wp2_with (first|((with_reducible refine gate_dst (N:=9) rfl ?_);refine box_event ?hg (N:=9) ?hd (cs:=#[.int .i64 0,.int .i64 0,.int .i64 0]) (t:=45) ?hr ?_;(case hd => rfl);(case hg => rfl);(case hr => first|(go_simp;done)|(go_simp;rfl));intro gb305 hg w24 hbox hb;have n0_:=Am (blk_below (g:=gb303) (o:=.cells #[.slice A0_0 l0_0.length c0_0,.slice (some ad304) l0_1.length c0_1,.int .i64 a0_2,.int .i64 a0_3,.int .i64 a0_4] 26 (0,0)) (by (with_reducible repeat (first|refine kN ?_ _|refine kD ?_|refine kA ?_ _));exact BK303.out) hb);have n1_:=Am (below_step (by repeat (first|(with_reducible first|exact HB.out|apply bA|apply bN|apply bD|refine bS ?_ GE303.out)|exact HB.out)) hb);have n2_:=Am (hbox);have n3_:=Am ((by rw [hg];exact (below_size (by repeat (first|(with_reducible first|exact HB.out|apply bA|apply bN|apply bD|refine bS ?_ GE303.out)|exact HB.out))) : w.heap.size ≤ gb305));have n4_:=Am ((by rw [hg];exact (below_size (by repeat (first|(with_reducible first|exact HB.out|apply bA|apply bN|apply bD|refine bS ?_ GE303.out)|exact HB.out))) : w.heap.size ≤ gb305));have n5_:=Am ((by rw [hg];exact Nat.ne_of_lt (blk_lt (g:=gb303) (o:=.cells #[.slice A0_0 l0_0.length c0_0,.slice (some ad304) l0_1.length c0_1,.int .i64 a0_2,.int .i64 a0_3,.int .i64 a0_4] 26 (0,0)) (by (with_reducible repeat (first|refine kN ?_ _|refine kD ?_|refine kA ?_ _));exact BK303.out)) : gb303 ≠ gb305));have n6_:=Am ((by rw [hg];exact Nat.ne_of_gt (blk_lt (g:=gb303) (o:=.cells #[.slice A0_0 l0_0.length c0_0,.slice (some ad304) l0_1.length c0_1,.int .i64 a0_2,.int .i64 a0_3,.int .i64 a0_4] 26 (0,0)) (by (with_reducible repeat (first|refine kN ?_ _|refine kD ?_|refine kA ?_ _));exact BK303.out)) : gb305 ≠ gb303));clear BK303;clear HB;have BK303:=n0_;have HB:=n1_;have BK305:=n2_;have GW305:=n3_;have GE305:=n4_;have NB303_305:=n5_;have NB305_303:=n6_;clear n0_ n1_ n2_ n3_ n4_ n5_ n6_;clear hb hbox hg;have hnb25:=NB305_303.out;have hnc25:=NB303_305.out;have hcz26_0 : w24.cell? ⟨gb305,0,none⟩ = some (.int .i64 0):=(kC BK305.out 0).trans rfl;have hcz26_1 : w24.cell? ⟨gb305,1,none⟩ = some (.int .i64 0):=(kC BK305.out 1).trans rfl;have hcz26_2 : w24.cell? ⟨gb305,2,none⟩ = some (.int .i64 0):=(kC BK305.out 2).trans rfl;have hfz26_0:=kF BK305.out 0;have hfz26_1:=kF BK305.out 1;have hfz26_2:=kF BK305.out 2))
       go_roundg k1
       case measure => have:=HK1.out;omega
       case rel => exact ⟨(x7_1),(wrap64 (x13_1 + 1)),(by first|rfl|(simp;done)|(simp [*];done)),(by first|rfl|(simp;done)|(simp [*];done)),H',⟨by have:=HK1.out;omega⟩,⟨by (with_reducible repeat (first|refine kN ?_ _|refine kD ?_|refine kA ?_ _));refine blk_far ?_ NB303_305.out _;(with_reducible repeat (first|refine kN ?_ _|refine kD ?_|refine kA ?_ _));refine blk_far ?_ NB303_305.out _;(with_reducible repeat (first|refine kN ?_ _|refine kD ?_|refine kA ?_ _));refine blk_far ?_ NB303_305.out _;(with_reducible repeat (first|refine kN ?_ _|refine kD ?_|refine kA ?_ _));exact BK303.out⟩,⟨by repeat (first|(with_reducible first|exact HB.out|apply bA|apply bN|apply bD|refine bS ?_ GE303.out|refine bS ?_ GE305.out)|exact HB.out)⟩⟩
     ·rw [if_neg c8] at H
      exact absurd H (by simp)
    ·rw [if_neg c7] at H
     exact absurd H (by simp)
   ·rw [if_neg c6] at H
    have c6b0 : decide (x13_1 < (l0_1.length : Int)) = false:=decide_eq_false c6
    clear c6
    obtain rfl:=Option.some.inj H
    go_wp2
    go_ret
    exact ⟨by first|rfl|(simp [errW_none,errW_some] <;> rfl)|(simp [*,errW_none,errW_some] <;> rfl),by repeat (first|(with_reducible first|exact HB.out|apply bA|apply bN|apply bD|refine bS ?_ GE303.out)|exact HB.out)⟩

end Go.Proofs.Ytanjbdgmnecacaa.PA
