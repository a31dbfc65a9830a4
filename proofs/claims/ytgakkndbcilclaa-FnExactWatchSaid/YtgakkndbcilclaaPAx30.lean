-- Written by a program of this session (wip/print/myprint.py) over the kit's print, with contracts of its own; not a text of print.sh's.
import Derived.Test.YtgakkndbcilclaaPAx0
import Derived.Test.YtgakkndbcilclaaPAx1
import Derived.Test.YtgakkndbcilclaaPAx2
import Derived.Test.YtgakkndbcilclaaPAx3
import Derived.Test.YtgakkndbcilclaaPAx14
namespace Go.Proofs.Ytgakkndbcilclaa.PA
open Go.RowKit Go.Proofs.YtgakkndbcilclaaW.PrintWords Go.Proofs.YtgakkndbcilclaaW.PrintLast Go.Proofs.YtgakkndbcilclaaW.PrintMore
attribute [local go_sem] max2_int min2_int max_two min_two   -- for this text's walks alone
set_option linter.unusedVariables false
set_option linter.unusedSimpArgs false

/-! ### spec_l3good: function 76 -/
def spec_l3good.f (k : Nat) (l0_0 : List (S71)) (l0_1 : List (S75)) (a0_2 : Int) (a0_3 : Int) (a0_4 : Int) (a1 : Int) (a2 : Int) : Option (Bool):=(spec_ProfileOk.f k l0_0 l0_1 a0_2 a0_3 a0_4).bind fun t352 => (if t352 = 0 then ((spec_l2total.f k l0_0 l0_1 a0_2 a0_3 a0_4).bind fun t353 => ((spec_l1in.f a1 0 t353).bind fun t354 => (if t354 = true then ((spec_l1in.f a2 0 10000).bind fun t355 => (some t355)) else (some false)))) else (some false))
theorem spec_l3good.mono : ∀ a0 a1 a2 a3 a4 a5 a6 k,LeO (spec_l3good.f k a0 a1 a2 a3 a4 a5 a6) (spec_l3good.f (k + 1) a0 a1 a2 a3 a4 a5 a6):=by
 intro a0 a1 a2 a3 a4 a5 a6 k
 unfold spec_l3good.f
 repeat' first
   | (with_reducible exact spec_ProfileOk.mono _ _ _ _ _ _)
   | (with_reducible exact spec_l2total.mono _ _ _ _ _ _)
   | (with_reducible exact LeO.refl _)
   | (with_reducible exact LeO.none _)
   | (with_reducible refine LeO.ite ?_ ?_)
   | (with_reducible refine LeO.bind ?_ (fun _ => ?_))
   | exact spec_ProfileOk.mono _ _ _ _ _ _
   | exact spec_l2total.mono _ _ _ _ _ _
   | exact LeO.none _
   | refine LeO.ite ?_ ?_
   | refine LeO.bind ?_ (fun _ => ?_)
set_option maxHeartbeats 8000000 in
set_option maxRecDepth 100000 in
theorem spec_l3good.calls (k : Nat) (A0_0 : Option Addr) (c0_0 : Nat) (l0_0 : List (S71)) (A0_1 : Option Addr) (c0_1 : Nat) (l0_1 : List (S75)) (a0_2 : Int) (a0_3 : Int) (a0_4 : Int) (a1 : Int) (a2 : Int) (r : Bool) (w : World) (hr0_0 : Kd.C k71 w A0_0 l0_0.length l0_0) (hc0_0 : l0_0.length ≤ c0_0) (hr0_1 : Kd.C k75 w A0_1 l0_1.length l0_1) (hc0_1 : l0_1.length ≤ c0_1) (h : spec_l3good.f k l0_0 l0_1 a0_2 a0_3 a0_4 a1 a2 = some r) :
  Calls Try.prog 76 #[.agg #[.slice A0_0 l0_0.length c0_0,.slice A0_1 l0_1.length c0_1,.int .i64 a0_2,.int .i64 a0_3,.int .i64 a0_4],.int .i64 a1,.int .i64 a2] w fun e w' => e = .returned (.bool r)∧Below w.heap.size w w':=by
 have hu31:=Try.underlying31
 have HR0_0:=Am hr0_0
 have HC0_0:=Am hc0_0
 clear hr0_0 hc0_0
 have HR0_1:=Am hr0_1
 have HC0_1:=Am hc0_1
 clear hr0_1 hc0_1
 have HB:=Am (Below.refl w.heap.size w)
 have H : ((spec_ProfileOk.f k l0_0 l0_1 a0_2 a0_3 a0_4).bind fun t352 => (if t352 = 0 then ((spec_l2total.f k l0_0 l0_1 a0_2 a0_3 a0_4).bind fun t353 => ((spec_l1in.f a1 0 t353).bind fun t354 => (if t354 = true then ((spec_l1in.f a2 0 10000).bind fun t355 => (some t355)) else (some false)))) else (some false))) = some r:=h
 clear h
 replace H:=Option.bind_eq_some_iff.mp H
 obtain ⟨t352,A40,H⟩:=H
 replace H : (if t352 = 0 then ((spec_l2total.f k l0_0 l0_1 a0_2 a0_3 a0_4).bind fun t353 => ((spec_l1in.f a1 0 t353).bind fun t354 => (if t354 = true then ((spec_l1in.f a2 0 10000).bind fun t355 => (some t355)) else (some false)))) else (some false)) = some r:=H
 have A4:=Am A40
 clear A40
 by_cases c5 : t352 = 0
 ·rw [if_pos c5] at H
  have c5b0 : (t352 == 0) = true:=beq_iff_eq.mpr c5
  have c5b1 : (t352 != 0) = false:=bne_eq_false_iff_eq.mpr c5
  clear c5
  replace H:=Option.bind_eq_some_iff.mp H
  obtain ⟨t353,A60,H⟩:=H
  replace H : ((spec_l1in.f a1 0 t353).bind fun t354 => (if t354 = true then ((spec_l1in.f a2 0 10000).bind fun t355 => (some t355)) else (some false))) = some r:=H
  have A6:=Am A60
  clear A60
  replace H:=Option.bind_eq_some_iff.mp H
  obtain ⟨t354,A70,H⟩:=H
  replace H : (if t354 = true then ((spec_l1in.f a2 0 10000).bind fun t355 => (some t355)) else (some false)) = some r:=H
  have A7:=Am A70
  clear A70
  by_cases c8 : t354 = true
  ·subst c8
   have H1 : ((spec_l1in.f a2 0 10000).bind fun t355 => (some t355)) = some r:=by rw [if_pos rfl] at H;exact H
   clear H
   have H:=H1
   clear H1
   replace H:=Option.bind_eq_some_iff.mp H
   obtain ⟨t355,A90,H⟩:=H
   replace H : (some t355) = some r:=H
   have A9:=Am A90
   clear A90
   obtain rfl:=Option.some.inj H
   go_enter Try.func76,Try.ntmps76
   go_wp2_with (first|((with_reducible refine gate_dst (N:=3) rfl ?_);refine box_event ?hg (N:=3) ?hd (cs:=#[.slice A0_0 l0_0.length c0_0,.slice A0_1 l0_1.length c0_1,.int .i64 a0_2,.int .i64 a0_3,.int .i64 a0_4]) (t:=31) ?hr ?_;(case hd => rfl);(case hg => rfl);(case hr => first|(go_simp;done)|(go_simp;rfl));intro gb351 hg w10 hbox hb;have n0_:=Am (below_step (by repeat (first|(with_reducible first|exact HB.out|apply bA|apply bN|apply bD)|exact HB.out)) hb);have n1_:=Am (hbox);have n2_:=Am ((by rw [hg];exact (below_size (by repeat (first|(with_reducible first|exact HB.out|apply bA|apply bN|apply bD)|exact HB.out))) : w.heap.size ≤ gb351));have n3_:=Am ((by rw [hg];exact (below_size (by repeat (first|(with_reducible first|exact HB.out|apply bA|apply bN|apply bD)|exact HB.out))) : w.heap.size ≤ gb351));clear HB;have HB:=n0_;have BK351:=n1_;have GW351:=n2_;have GE351:=n3_;clear n0_ n1_ n2_ n3_;clear hb hbox hg;have hcz11_0 : w10.cell? ⟨gb351,0,none⟩ = some (.slice A0_0 l0_0.length c0_0):=(kC BK351.out 0).trans rfl;have hcz11_1 : w10.cell? ⟨gb351,1,none⟩ = some (.slice A0_1 l0_1.length c0_1):=(kC BK351.out 1).trans rfl;have hcz11_2 : w10.cell? ⟨gb351,2,none⟩ = some (.int .i64 a0_2):=(kC BK351.out 2).trans rfl;have hcz11_3 : w10.cell? ⟨gb351,3,none⟩ = some (.int .i64 a0_3):=(kC BK351.out 3).trans rfl;have hcz11_4 : w10.cell? ⟨gb351,4,none⟩ = some (.int .i64 a0_4):=(kC BK351.out 4).trans rfl;have hfz11_0:=kF BK351.out 0;have hfz11_1:=kF BK351.out 1;have hfz11_2:=kF BK351.out 2;have hfz11_3:=kF BK351.out 3;have hfz11_4:=kF BK351.out 4)|((with_reducible refine gate_callee (f:=15) rfl ?_);refine goesL_ (some 8) rfl rfl Try.func15 (by kernel_rfl) rfl #[.agg #[.slice A0_0 l0_0.length c0_0,.slice A0_1 l0_1.length c0_1,.int .i64 a0_2,.int .i64 a0_3,.int .i64 a0_4]] rfl (by (try simp only [List.map_toArray,List.map_cons,List.map_nil]);first|done|rfl|(simp only [List.length_drop,List.length_take];rfl)) ?_;(with_reducible refine (spec_ProfileOk.calls k _ _ l0_0 _ _ l0_1 a0_2 a0_3 a0_4 t352 _ ?side1 ?side2 ?side3 ?side4 A4.out).mono ?_);(case side1 => repeat (first|exact (Kd.C_below HR0_0.out HB.out)|(with_reducible refine Kd.C_alloc ?_ _)|(with_reducible refine Kd.C_drewN ?_ _)|(with_reducible refine Kd.C_drew ?_)));(case side2 => exact HC0_0.out);(case side3 => repeat (first|exact (Kd.C_below HR0_1.out HB.out)|(with_reducible refine Kd.C_alloc ?_ _)|(with_reducible refine Kd.C_drewN ?_ _)|(with_reducible refine Kd.C_drew ?_)));(case side4 => exact HC0_1.out);rintro e w12 ⟨rfl,hb⟩;refine ⟨_,rfl,?_⟩;have n0_:=Am (blk_below (g:=gb351) (o:=.cells #[.slice A0_0 l0_0.length c0_0,.slice A0_1 l0_1.length c0_1,.int .i64 a0_2,.int .i64 a0_3,.int .i64 a0_4] 31 (0,0)) (by (with_reducible repeat (first|refine kN ?_ _|refine kD ?_|refine kA ?_ _));exact BK351.out) hb);have n1_:=Am (below_step (by repeat (first|(with_reducible first|exact HB.out|apply bA|apply bN|apply bD|refine bS ?_ GE351.out)|exact HB.out)) hb);clear BK351;clear HB;have BK351:=n0_;have HB:=n1_;clear n0_ n1_;(try clear hb);(try clear hb2);(try clear hk);(try clear hi);have hcz13_0 : w12.cell? ⟨gb351,0,none⟩ = some (.slice A0_0 l0_0.length c0_0):=(kC BK351.out 0).trans rfl;have hcz13_1 : w12.cell? ⟨gb351,1,none⟩ = some (.slice A0_1 l0_1.length c0_1):=(kC BK351.out 1).trans rfl;have hcz13_2 : w12.cell? ⟨gb351,2,none⟩ = some (.int .i64 a0_2):=(kC BK351.out 2).trans rfl;have hcz13_3 : w12.cell? ⟨gb351,3,none⟩ = some (.int .i64 a0_3):=(kC BK351.out 3).trans rfl;have hcz13_4 : w12.cell? ⟨gb351,4,none⟩ = some (.int .i64 a0_4):=(kC BK351.out 4).trans rfl;have hfz13_0:=kF BK351.out 0;have hfz13_1:=kF BK351.out 1;have hfz13_2:=kF BK351.out 2;have hfz13_3:=kF BK351.out 3;have hfz13_4:=kF BK351.out 4)|(go_at_call 59;(with_reducible refine (spec_l2total.calls k _ _ l0_0 _ _ l0_1 a0_2 a0_3 a0_4 t353 _ ?side1 ?side2 ?side3 ?side4 A6.out).mono ?_);(case side1 => repeat (first|exact (Kd.C_below HR0_0.out HB.out)|(with_reducible refine Kd.C_alloc ?_ _)|(with_reducible refine Kd.C_drewN ?_ _)|(with_reducible refine Kd.C_drew ?_)));(case side2 => exact HC0_0.out);(case side3 => repeat (first|exact (Kd.C_below HR0_1.out HB.out)|(with_reducible refine Kd.C_alloc ?_ _)|(with_reducible refine Kd.C_drewN ?_ _)|(with_reducible refine Kd.C_drew ?_)));(case side4 => exact HC0_1.out);rintro e w14 ⟨rfl,hb⟩;have n0_:=Am (blk_below (g:=gb351) (o:=.cells #[.slice A0_0 l0_0.length c0_0,.slice A0_1 l0_1.length c0_1,.int .i64 a0_2,.int .i64 a0_3,.int .i64 a0_4] 31 (0,0)) (by (with_reducible repeat (first|refine kN ?_ _|refine kD ?_|refine kA ?_ _));exact BK351.out) hb);have n1_:=Am (below_step (by repeat (first|(with_reducible first|exact HB.out|apply bA|apply bN|apply bD|refine bS ?_ GE351.out)|exact HB.out)) hb);clear BK351;clear HB;have BK351:=n0_;have HB:=n1_;clear n0_ n1_;(try clear hb);(try clear hb2);(try clear hk);(try clear hi))|(go_at_call 57;(with_reducible refine (spec_l1in.calls a1 0 t353 true _ A7.out).mono ?_);rintro e w' ⟨rfl,⟨nd,rfl⟩⟩)|(go_at_call 57;(with_reducible refine (spec_l1in.calls a2 0 10000 t355 _ A9.out).mono ?_);rintro e w' ⟨rfl,⟨nd,rfl⟩⟩))
   go_ret
   exact ⟨by first|rfl|(simp [errW_none,errW_some] <;> rfl)|(simp [*,errW_none,errW_some] <;> rfl),by repeat (first|(with_reducible first|exact HB.out|apply bA|apply bN|apply bD|refine bS ?_ GE351.out)|exact HB.out)⟩
  ·replace c8:=Bool.eq_false_iff.mpr c8
   subst c8
   have H1 : (some false) = some r:=by rw [if_neg (show ¬ (false = true) by decide)] at H;exact H
   clear H
   have H:=H1
   clear H1
   obtain rfl:=Option.some.inj H
   go_enter Try.func76,Try.ntmps76
   go_wp2_with (first|((with_reducible refine gate_dst (N:=3) rfl ?_);refine box_event ?hg (N:=3) ?hd (cs:=#[.slice A0_0 l0_0.length c0_0,.slice A0_1 l0_1.length c0_1,.int .i64 a0_2,.int .i64 a0_3,.int .i64 a0_4]) (t:=31) ?hr ?_;(case hd => rfl);(case hg => rfl);(case hr => first|(go_simp;done)|(go_simp;rfl));intro gb351 hg w15 hbox hb;have n0_:=Am (below_step (by repeat (first|(with_reducible first|exact HB.out|apply bA|apply bN|apply bD)|exact HB.out)) hb);have n1_:=Am (hbox);have n2_:=Am ((by rw [hg];exact (below_size (by repeat (first|(with_reducible first|exact HB.out|apply bA|apply bN|apply bD)|exact HB.out))) : w.heap.size ≤ gb351));have n3_:=Am ((by rw [hg];exact (below_size (by repeat (first|(with_reducible first|exact HB.out|apply bA|apply bN|apply bD)|exact HB.out))) : w.heap.size ≤ gb351));clear HB;have HB:=n0_;have BK351:=n1_;have GW351:=n2_;have GE351:=n3_;clear n0_ n1_ n2_ n3_;clear hb hbox hg;have hcz16_0 : w15.cell? ⟨gb351,0,none⟩ = some (.slice A0_0 l0_0.length c0_0):=(kC BK351.out 0).trans rfl;have hcz16_1 : w15.cell? ⟨gb351,1,none⟩ = some (.slice A0_1 l0_1.length c0_1):=(kC BK351.out 1).trans rfl;have hcz16_2 : w15.cell? ⟨gb351,2,none⟩ = some (.int .i64 a0_2):=(kC BK351.out 2).trans rfl;have hcz16_3 : w15.cell? ⟨gb351,3,none⟩ = some (.int .i64 a0_3):=(kC BK351.out 3).trans rfl;have hcz16_4 : w15.cell? ⟨gb351,4,none⟩ = some (.int .i64 a0_4):=(kC BK351.out 4).trans rfl;have hfz16_0:=kF BK351.out 0;have hfz16_1:=kF BK351.out 1;have hfz16_2:=kF BK351.out 2;have hfz16_3:=kF BK351.out 3;have hfz16_4:=kF BK351.out 4)|((with_reducible refine gate_callee (f:=15) rfl ?_);refine goesL_ (some 8) rfl rfl Try.func15 (by kernel_rfl) rfl #[.agg #[.slice A0_0 l0_0.length c0_0,.slice A0_1 l0_1.length c0_1,.int .i64 a0_2,.int .i64 a0_3,.int .i64 a0_4]] rfl (by (try simp only [List.map_toArray,List.map_cons,List.map_nil]);first|done|rfl|(simp only [List.length_drop,List.length_take];rfl)) ?_;(with_reducible refine (spec_ProfileOk.calls k _ _ l0_0 _ _ l0_1 a0_2 a0_3 a0_4 t352 _ ?side1 ?side2 ?side3 ?side4 A4.out).mono ?_);(case side1 => repeat (first|exact (Kd.C_below HR0_0.out HB.out)|(with_reducible refine Kd.C_alloc ?_ _)|(with_reducible refine Kd.C_drewN ?_ _)|(with_reducible refine Kd.C_drew ?_)));(case side2 => exact HC0_0.out);(case side3 => repeat (first|exact (Kd.C_below HR0_1.out HB.out)|(with_reducible refine Kd.C_alloc ?_ _)|(with_reducible refine Kd.C_drewN ?_ _)|(with_reducible refine Kd.C_drew ?_)));(case side4 => exact HC0_1.out);rintro e w17 ⟨rfl,hb⟩;refine ⟨_,rfl,?_⟩;have n0_:=Am (blk_below (g:=gb351) (o:=.cells #[.slice A0_0 l0_0.length c0_0,.slice A0_1 l0_1.length c0_1,.int .i64 a0_2,.int .i64 a0_3,.int .i64 a0_4] 31 (0,0)) (by (with_reducible repeat (first|refine kN ?_ _|refine kD ?_|refine kA ?_ _));exact BK351.out) hb);have n1_:=Am (below_step (by repeat (first|(with_reducible first|exact HB.out|apply bA|apply bN|apply bD|refine bS ?_ GE351.out)|exact HB.out)) hb);clear BK351;clear HB;have BK351:=n0_;have HB:=n1_;clear n0_ n1_;(try clear hb);(try clear hb2);(try clear hk);(try clear hi);have hcz18_0 : w17.cell? ⟨gb351,0,none⟩ = some (.slice A0_0 l0_0.length c0_0):=(kC BK351.out 0).trans rfl;have hcz18_1 : w17.cell? ⟨gb351,1,none⟩ = some (.slice A0_1 l0_1.length c0_1):=(kC BK351.out 1).trans rfl;have hcz18_2 : w17.cell? ⟨gb351,2,none⟩ = some (.int .i64 a0_2):=(kC BK351.out 2).trans rfl;have hcz18_3 : w17.cell? ⟨gb351,3,none⟩ = some (.int .i64 a0_3):=(kC BK351.out 3).trans rfl;have hcz18_4 : w17.cell? ⟨gb351,4,none⟩ = some (.int .i64 a0_4):=(kC BK351.out 4).trans rfl;have hfz18_0:=kF BK351.out 0;have hfz18_1:=kF BK351.out 1;have hfz18_2:=kF BK351.out 2;have hfz18_3:=kF BK351.out 3;have hfz18_4:=kF BK351.out 4)|(go_at_call 59;(with_reducible refine (spec_l2total.calls k _ _ l0_0 _ _ l0_1 a0_2 a0_3 a0_4 t353 _ ?side1 ?side2 ?side3 ?side4 A6.out).mono ?_);(case side1 => repeat (first|exact (Kd.C_below HR0_0.out HB.out)|(with_reducible refine Kd.C_alloc ?_ _)|(with_reducible refine Kd.C_drewN ?_ _)|(with_reducible refine Kd.C_drew ?_)));(case side2 => exact HC0_0.out);(case side3 => repeat (first|exact (Kd.C_below HR0_1.out HB.out)|(with_reducible refine Kd.C_alloc ?_ _)|(with_reducible refine Kd.C_drewN ?_ _)|(with_reducible refine Kd.C_drew ?_)));(case side4 => exact HC0_1.out);rintro e w19 ⟨rfl,hb⟩;have n0_:=Am (blk_below (g:=gb351) (o:=.cells #[.slice A0_0 l0_0.length c0_0,.slice A0_1 l0_1.length c0_1,.int .i64 a0_2,.int .i64 a0_3,.int .i64 a0_4] 31 (0,0)) (by (with_reducible repeat (first|refine kN ?_ _|refine kD ?_|refine kA ?_ _));exact BK351.out) hb);have n1_:=Am (below_step (by repeat (first|(with_reducible first|exact HB.out|apply bA|apply bN|apply bD|refine bS ?_ GE351.out)|exact HB.out)) hb);clear BK351;clear HB;have BK351:=n0_;have HB:=n1_;clear n0_ n1_;(try clear hb);(try clear hb2);(try clear hk);(try clear hi))|(go_at_call 57;(with_reducible refine (spec_l1in.calls a1 0 t353 false _ A7.out).mono ?_);rintro e w' ⟨rfl,⟨nd,rfl⟩⟩))
   go_ret
   exact ⟨by first|rfl|(simp [errW_none,errW_some] <;> rfl)|(simp [*,errW_none,errW_some] <;> rfl),by repeat (first|(with_reducible first|exact HB.out|apply bA|apply bN|apply bD|refine bS ?_ GE351.out)|exact HB.out)⟩
 ·rw [if_neg c5] at H
  have c5b0 : (t352 == 0) = false:=beq_eq_false_iff_ne.mpr c5
  have c5b1 : (t352 != 0) = true:=bne_iff_ne.mpr c5
  obtain rfl:=Option.some.inj H
  go_enter Try.func76,Try.ntmps76
  go_wp2_with (first|((with_reducible refine gate_dst (N:=3) rfl ?_);refine box_event ?hg (N:=3) ?hd (cs:=#[.slice A0_0 l0_0.length c0_0,.slice A0_1 l0_1.length c0_1,.int .i64 a0_2,.int .i64 a0_3,.int .i64 a0_4]) (t:=31) ?hr ?_;(case hd => rfl);(case hg => rfl);(case hr => first|(go_simp;done)|(go_simp;rfl));intro gb351 hg w20 hbox hb;have n0_:=Am (below_step (by repeat (first|(with_reducible first|exact HB.out|apply bA|apply bN|apply bD)|exact HB.out)) hb);have n1_:=Am (hbox);have n2_:=Am ((by rw [hg];exact (below_size (by repeat (first|(with_reducible first|exact HB.out|apply bA|apply bN|apply bD)|exact HB.out))) : w.heap.size ≤ gb351));have n3_:=Am ((by rw [hg];exact (below_size (by repeat (first|(with_reducible first|exact HB.out|apply bA|apply bN|apply bD)|exact HB.out))) : w.heap.size ≤ gb351));clear HB;have HB:=n0_;have BK351:=n1_;have GW351:=n2_;have GE351:=n3_;clear n0_ n1_ n2_ n3_;clear hb hbox hg;have hcz21_0 : w20.cell? ⟨gb351,0,none⟩ = some (.slice A0_0 l0_0.length c0_0):=(kC BK351.out 0).trans rfl;have hcz21_1 : w20.cell? ⟨gb351,1,none⟩ = some (.slice A0_1 l0_1.length c0_1):=(kC BK351.out 1).trans rfl;have hcz21_2 : w20.cell? ⟨gb351,2,none⟩ = some (.int .i64 a0_2):=(kC BK351.out 2).trans rfl;have hcz21_3 : w20.cell? ⟨gb351,3,none⟩ = some (.int .i64 a0_3):=(kC BK351.out 3).trans rfl;have hcz21_4 : w20.cell? ⟨gb351,4,none⟩ = some (.int .i64 a0_4):=(kC BK351.out 4).trans rfl;have hfz21_0:=kF BK351.out 0;have hfz21_1:=kF BK351.out 1;have hfz21_2:=kF BK351.out 2;have hfz21_3:=kF BK351.out 3;have hfz21_4:=kF BK351.out 4)|((with_reducible refine gate_callee (f:=15) rfl ?_);refine goesL_ (some 8) rfl rfl Try.func15 (by kernel_rfl) rfl #[.agg #[.slice A0_0 l0_0.length c0_0,.slice A0_1 l0_1.length c0_1,.int .i64 a0_2,.int .i64 a0_3,.int .i64 a0_4]] rfl (by (try simp only [List.map_toArray,List.map_cons,List.map_nil]);first|done|rfl|(simp only [List.length_drop,List.length_take];rfl)) ?_;(with_reducible refine (spec_ProfileOk.calls k _ _ l0_0 _ _ l0_1 a0_2 a0_3 a0_4 t352 _ ?side1 ?side2 ?side3 ?side4 A4.out).mono ?_);(case side1 => repeat (first|exact (Kd.C_below HR0_0.out HB.out)|(with_reducible refine Kd.C_alloc ?_ _)|(with_reducible refine Kd.C_drewN ?_ _)|(with_reducible refine Kd.C_drew ?_)));(case side2 => exact HC0_0.out);(case side3 => repeat (first|exact (Kd.C_below HR0_1.out HB.out)|(with_reducible refine Kd.C_alloc ?_ _)|(with_reducible refine Kd.C_drewN ?_ _)|(with_reducible refine Kd.C_drew ?_)));(case side4 => exact HC0_1.out);rintro e w22 ⟨rfl,hb⟩;refine ⟨_,rfl,?_⟩;have n0_:=Am (blk_below (g:=gb351) (o:=.cells #[.slice A0_0 l0_0.length c0_0,.slice A0_1 l0_1.length c0_1,.int .i64 a0_2,.int .i64 a0_3,.int .i64 a0_4] 31 (0,0)) (by (with_reducible repeat (first|refine kN ?_ _|refine kD ?_|refine kA ?_ _));exact BK351.out) hb);have n1_:=Am (below_step (by repeat (first|(with_reducible first|exact HB.out|apply bA|apply bN|apply bD|refine bS ?_ GE351.out)|exact HB.out)) hb);clear BK351;clear HB;have BK351:=n0_;have HB:=n1_;clear n0_ n1_;(try clear hb);(try clear hb2);(try clear hk);(try clear hi)))
  go_ret
  exact ⟨by first|rfl|(simp [errW_none,errW_some] <;> rfl)|(simp [*,errW_none,errW_some] <;> rfl),by repeat (first|(with_reducible first|exact HB.out|apply bA|apply bN|apply bD|refine bS ?_ GE351.out)|exact HB.out)⟩

/-! ### spec_l3may: function 82 -/
def spec_l3may.f (k : Nat) (l0_0 : List (S71)) (l0_1 : List (S75)) (a0_2 : Int) (a0_3 : Int) (a0_4 : Int) (a1 : Int) (a2 : Int) : Option (Bool):=if a2 = 0 then (some (decide (a1 ≤ a0_3))) else (if (wrap64 (a1 + a2)) ≤ a0_3 then ((spec_l2over.f k l0_0 l0_1 a0_2 a0_3 a0_4 a1 (wrap64 (a1 + a2))).bind fun t357 => (some (decide (a2 ≤ t357)))) else (some false))
theorem spec_l3may.mono : ∀ a0 a1 a2 a3 a4 a5 a6 k,LeO (spec_l3may.f k a0 a1 a2 a3 a4 a5 a6) (spec_l3may.f (k + 1) a0 a1 a2 a3 a4 a5 a6):=by
 intro a0 a1 a2 a3 a4 a5 a6 k
 unfold spec_l3may.f
 repeat' first
   | (with_reducible exact spec_l2over.mono _ _ _ _ _ _ _ _)
   | (with_reducible exact LeO.refl _)
   | (with_reducible exact LeO.none _)
   | (with_reducible refine LeO.ite ?_ ?_)
   | (with_reducible refine LeO.bind ?_ (fun _ => ?_))
   | exact spec_l2over.mono _ _ _ _ _ _ _ _
   | exact LeO.none _
   | refine LeO.ite ?_ ?_
   | refine LeO.bind ?_ (fun _ => ?_)
set_option maxHeartbeats 8000000 in
set_option maxRecDepth 100000 in
theorem spec_l3may.calls (k : Nat) (A0_0 : Option Addr) (c0_0 : Nat) (l0_0 : List (S71)) (A0_1 : Option Addr) (c0_1 : Nat) (l0_1 : List (S75)) (a0_2 : Int) (a0_3 : Int) (a0_4 : Int) (a1 : Int) (a2 : Int) (r : Bool) (w : World) (hr0_0 : Kd.C k71 w A0_0 l0_0.length l0_0) (hc0_0 : l0_0.length ≤ c0_0) (hr0_1 : Kd.C k75 w A0_1 l0_1.length l0_1) (hc0_1 : l0_1.length ≤ c0_1) (h : spec_l3may.f k l0_0 l0_1 a0_2 a0_3 a0_4 a1 a2 = some r) :
  Calls Try.prog 82 #[.agg #[.slice A0_0 l0_0.length c0_0,.slice A0_1 l0_1.length c0_1,.int .i64 a0_2,.int .i64 a0_3,.int .i64 a0_4],.int .i64 a1,.int .i64 a2] w fun e w' => e = .returned (.bool r)∧Below w.heap.size w w':=by
 have hu31:=Try.underlying31
 have HR0_0:=Am hr0_0
 have HC0_0:=Am hc0_0
 clear hr0_0 hc0_0
 have HR0_1:=Am hr0_1
 have HC0_1:=Am hc0_1
 clear hr0_1 hc0_1
 have HB:=Am (Below.refl w.heap.size w)
 have H : (if a2 = 0 then (some (decide (a1 ≤ a0_3))) else (if (wrap64 (a1 + a2)) ≤ a0_3 then ((spec_l2over.f k l0_0 l0_1 a0_2 a0_3 a0_4 a1 (wrap64 (a1 + a2))).bind fun t357 => (some (decide (a2 ≤ t357)))) else (some false))) = some r:=h
 clear h
 by_cases c4 : a2 = 0
 ·rw [if_pos c4] at H
  have c4b0 : (a2 == 0) = true:=beq_iff_eq.mpr c4
  have c4b1 : (a2 != 0) = false:=bne_eq_false_iff_eq.mpr c4
  clear c4
  obtain rfl:=Option.some.inj H
  go_enter Try.func82,Try.ntmps82
  go_wp2_with (first|((with_reducible refine gate_dst (N:=3) rfl ?_);refine box_event ?hg (N:=3) ?hd (cs:=#[.slice A0_0 l0_0.length c0_0,.slice A0_1 l0_1.length c0_1,.int .i64 a0_2,.int .i64 a0_3,.int .i64 a0_4]) (t:=31) ?hr ?_;(case hd => rfl);(case hg => rfl);(case hr => first|(go_simp;done)|(go_simp;rfl));intro gb356 hg w5 hbox hb;have n0_:=Am (below_step (by repeat (first|(with_reducible first|exact HB.out|apply bA|apply bN|apply bD)|exact HB.out)) hb);have n1_:=Am (hbox);have n2_:=Am ((by rw [hg];exact (below_size (by repeat (first|(with_reducible first|exact HB.out|apply bA|apply bN|apply bD)|exact HB.out))) : w.heap.size ≤ gb356));have n3_:=Am ((by rw [hg];exact (below_size (by repeat (first|(with_reducible first|exact HB.out|apply bA|apply bN|apply bD)|exact HB.out))) : w.heap.size ≤ gb356));clear HB;have HB:=n0_;have BK356:=n1_;have GW356:=n2_;have GE356:=n3_;clear n0_ n1_ n2_ n3_;clear hb hbox hg;have hcz6_0 : w5.cell? ⟨gb356,0,none⟩ = some (.slice A0_0 l0_0.length c0_0):=(kC BK356.out 0).trans rfl;have hcz6_1 : w5.cell? ⟨gb356,1,none⟩ = some (.slice A0_1 l0_1.length c0_1):=(kC BK356.out 1).trans rfl;have hcz6_2 : w5.cell? ⟨gb356,2,none⟩ = some (.int .i64 a0_2):=(kC BK356.out 2).trans rfl;have hcz6_3 : w5.cell? ⟨gb356,3,none⟩ = some (.int .i64 a0_3):=(kC BK356.out 3).trans rfl;have hcz6_4 : w5.cell? ⟨gb356,4,none⟩ = some (.int .i64 a0_4):=(kC BK356.out 4).trans rfl;have hfz6_0:=kF BK356.out 0;have hfz6_1:=kF BK356.out 1;have hfz6_2:=kF BK356.out 2;have hfz6_3:=kF BK356.out 3;have hfz6_4:=kF BK356.out 4))
  go_ret
  exact ⟨by first|rfl|(simp [errW_none,errW_some] <;> rfl)|(simp [*,errW_none,errW_some] <;> rfl),by repeat (first|(with_reducible first|exact HB.out|apply bA|apply bN|apply bD|refine bS ?_ GE356.out)|exact HB.out)⟩
 ·rw [if_neg c4] at H
  have c4b0 : (a2 == 0) = false:=beq_eq_false_iff_ne.mpr c4
  have c4b1 : (a2 != 0) = true:=bne_iff_ne.mpr c4
  by_cases c7 : (wrap64 (a1 + a2)) ≤ a0_3
  ·rw [if_pos c7] at H
   have c7b0 : decide ((wrap64 (a1 + a2)) ≤ a0_3) = true:=decide_eq_true c7
   clear c7
   replace H:=Option.bind_eq_some_iff.mp H
   obtain ⟨t357,A80,H⟩:=H
   replace H : (some (decide (a2 ≤ t357))) = some r:=H
   have A8:=Am A80
   clear A80
   obtain rfl:=Option.some.inj H
   go_enter Try.func82,Try.ntmps82
   go_wp2_with (first|((with_reducible refine gate_dst (N:=3) rfl ?_);refine box_event ?hg (N:=3) ?hd (cs:=#[.slice A0_0 l0_0.length c0_0,.slice A0_1 l0_1.length c0_1,.int .i64 a0_2,.int .i64 a0_3,.int .i64 a0_4]) (t:=31) ?hr ?_;(case hd => rfl);(case hg => rfl);(case hr => first|(go_simp;done)|(go_simp;rfl));intro gb356 hg w9 hbox hb;have n0_:=Am (below_step (by repeat (first|(with_reducible first|exact HB.out|apply bA|apply bN|apply bD)|exact HB.out)) hb);have n1_:=Am (hbox);have n2_:=Am ((by rw [hg];exact (below_size (by repeat (first|(with_reducible first|exact HB.out|apply bA|apply bN|apply bD)|exact HB.out))) : w.heap.size ≤ gb356));have n3_:=Am ((by rw [hg];exact (below_size (by repeat (first|(with_reducible first|exact HB.out|apply bA|apply bN|apply bD)|exact HB.out))) : w.heap.size ≤ gb356));clear HB;have HB:=n0_;have BK356:=n1_;have GW356:=n2_;have GE356:=n3_;clear n0_ n1_ n2_ n3_;clear hb hbox hg;have hcz10_0 : w9.cell? ⟨gb356,0,none⟩ = some (.slice A0_0 l0_0.length c0_0):=(kC BK356.out 0).trans rfl;have hcz10_1 : w9.cell? ⟨gb356,1,none⟩ = some (.slice A0_1 l0_1.length c0_1):=(kC BK356.out 1).trans rfl;have hcz10_2 : w9.cell? ⟨gb356,2,none⟩ = some (.int .i64 a0_2):=(kC BK356.out 2).trans rfl;have hcz10_3 : w9.cell? ⟨gb356,3,none⟩ = some (.int .i64 a0_3):=(kC BK356.out 3).trans rfl;have hcz10_4 : w9.cell? ⟨gb356,4,none⟩ = some (.int .i64 a0_4):=(kC BK356.out 4).trans rfl;have hfz10_0:=kF BK356.out 0;have hfz10_1:=kF BK356.out 1;have hfz10_2:=kF BK356.out 2;have hfz10_3:=kF BK356.out 3;have hfz10_4:=kF BK356.out 4)|(go_at_call 67;(with_reducible refine (spec_l2over.calls k _ _ l0_0 _ _ l0_1 a0_2 a0_3 a0_4 a1 (wrap64 (a1 + a2)) t357 _ ?side1 ?side2 ?side3 ?side4 A8.out).mono ?_);(case side1 => repeat (first|exact (Kd.C_below HR0_0.out HB.out)|(with_reducible refine Kd.C_alloc ?_ _)|(with_reducible refine Kd.C_drewN ?_ _)|(with_reducible refine Kd.C_drew ?_)));(case side2 => exact HC0_0.out);(case side3 => repeat (first|exact (Kd.C_below HR0_1.out HB.out)|(with_reducible refine Kd.C_alloc ?_ _)|(with_reducible refine Kd.C_drewN ?_ _)|(with_reducible refine Kd.C_drew ?_)));(case side4 => exact HC0_1.out);rintro e w11 ⟨rfl,hb⟩;have n0_:=Am (blk_below (g:=gb356) (o:=.cells #[.slice A0_0 l0_0.length c0_0,.slice A0_1 l0_1.length c0_1,.int .i64 a0_2,.int .i64 a0_3,.int .i64 a0_4] 31 (0,0)) (by (with_reducible repeat (first|refine kN ?_ _|refine kD ?_|refine kA ?_ _));exact BK356.out) hb);have n1_:=Am (below_step (by repeat (first|(with_reducible first|exact HB.out|apply bA|apply bN|apply bD|refine bS ?_ GE356.out)|exact HB.out)) hb);clear BK356;clear HB;have BK356:=n0_;have HB:=n1_;clear n0_ n1_;(try clear hb);(try clear hb2);(try clear hk);(try clear hi)))
   go_ret
   exact ⟨by first|rfl|(simp [errW_none,errW_some] <;> rfl)|(simp [*,errW_none,errW_some] <;> rfl),by repeat (first|(with_reducible first|exact HB.out|apply bA|apply bN|apply bD|refine bS ?_ GE356.out)|exact HB.out)⟩
  ·rw [if_neg c7] at H
   have c7b0 : decide ((wrap64 (a1 + a2)) ≤ a0_3) = false:=decide_eq_false c7
   clear c7
   obtain rfl:=Option.some.inj H
   go_enter Try.func82,Try.ntmps82
   go_wp2_with (first|((with_reducible refine gate_dst (N:=3) rfl ?_);refine box_event ?hg (N:=3) ?hd (cs:=#[.slice A0_0 l0_0.length c0_0,.slice A0_1 l0_1.length c0_1,.int .i64 a0_2,.int .i64 a0_3,.int .i64 a0_4]) (t:=31) ?hr ?_;(case hd => rfl);(case hg => rfl);(case hr => first|(go_simp;done)|(go_simp;rfl));intro gb356 hg w12 hbox hb;have n0_:=Am (below_step (by repeat (first|(with_reducible first|exact HB.out|apply bA|apply bN|apply bD)|exact HB.out)) hb);have n1_:=Am (hbox);have n2_:=Am ((by rw [hg];exact (below_size (by repeat (first|(with_reducible first|exact HB.out|apply bA|apply bN|apply bD)|exact HB.out))) : w.heap.size ≤ gb356));have n3_:=Am ((by rw [hg];exact (below_size (by repeat (first|(with_reducible first|exact HB.out|apply bA|apply bN|apply bD)|exact HB.out))) : w.heap.size ≤ gb356));clear HB;have HB:=n0_;have BK356:=n1_;have GW356:=n2_;have GE356:=n3_;clear n0_ n1_ n2_ n3_;clear hb hbox hg;have hcz13_0 : w12.cell? ⟨gb356,0,none⟩ = some (.slice A0_0 l0_0.length c0_0):=(kC BK356.out 0).trans rfl;have hcz13_1 : w12.cell? ⟨gb356,1,none⟩ = some (.slice A0_1 l0_1.length c0_1):=(kC BK356.out 1).trans rfl;have hcz13_2 : w12.cell? ⟨gb356,2,none⟩ = some (.int .i64 a0_2):=(kC BK356.out 2).trans rfl;have hcz13_3 : w12.cell? ⟨gb356,3,none⟩ = some (.int .i64 a0_3):=(kC BK356.out 3).trans rfl;have hcz13_4 : w12.cell? ⟨gb356,4,none⟩ = some (.int .i64 a0_4):=(kC BK356.out 4).trans rfl;have hfz13_0:=kF BK356.out 0;have hfz13_1:=kF BK356.out 1;have hfz13_2:=kF BK356.out 2;have hfz13_3:=kF BK356.out 3;have hfz13_4:=kF BK356.out 4))
   go_ret
   exact ⟨by first|rfl|(simp [errW_none,errW_some] <;> rfl)|(simp [*,errW_none,errW_some] <;> rfl),by repeat (first|(with_reducible first|exact HB.out|apply bA|apply bN|apply bD|refine bS ?_ GE356.out)|exact HB.out)⟩

end Go.Proofs.Ytgakkndbcilclaa.PA
