-- Written by a program of this session (wip/print/myprint.py) over the kit's print, with contracts of its own; not a text of print.sh's.
import Derived.Test.YtanjbdgmnecacaaPEx0
import Derived.Test.YtanjbdgmnecacaaPEx1
import Derived.Test.YtanjbdgmnecacaaPEx3
namespace Go.Proofs.Ytanjbdgmnecacaa.PE
open Go.RowKit Go.Proofs.YtanjbdgmnecacaaW.PrintWords Go.Proofs.YtanjbdgmnecacaaW.PrintLast Go.Proofs.YtanjbdgmnecacaaW.PrintMore
attribute [local go_sem] max2_int min2_int max_two min_two   -- for this text's walks alone
set_option linter.unusedVariables false
set_option linter.unusedSimpArgs false

/-! ### spec_l4good: function 44 -/
def spec_l4good.f (k : Nat) (l0_0 : List (S39)) (l0_1 : List (S45)) (a0_2 : Int) (a0_3 : Int) (a0_4 : Int) (a1 : Int) (a2 : Int) (a3 : Int) : Option (Bool):=(spec_ProfileOk.f k l0_0 l0_1 a0_2 a0_3 a0_4).bind fun t126 => (if t126 = 0 then ((spec_l1in.f a1 1 20).bind fun t127 => (if t127 = true then ((spec_l1in.f a2 0 a0_3).bind fun t128 => (if t128 = true then (if (wrap64 (a0_3 - a2)) ≤ 2000 then ((spec_l1in.f a3 0 2000).bind fun t129 => (some t129)) else (some false)) else (some false))) else (some false))) else (some false))
theorem spec_l4good.mono : ∀ a0 a1 a2 a3 a4 a5 a6 a7 k,LeO (spec_l4good.f k a0 a1 a2 a3 a4 a5 a6 a7) (spec_l4good.f (k + 1) a0 a1 a2 a3 a4 a5 a6 a7):=by
 intro a0 a1 a2 a3 a4 a5 a6 a7 k
 unfold spec_l4good.f
 repeat' first
   | (with_reducible exact spec_ProfileOk.mono _ _ _ _ _ _)
   | (with_reducible exact LeO.refl _)
   | (with_reducible exact LeO.none _)
   | (with_reducible refine LeO.ite ?_ ?_)
   | (with_reducible refine LeO.bind ?_ (fun _ => ?_))
   | exact spec_ProfileOk.mono _ _ _ _ _ _
   | exact LeO.none _
   | refine LeO.ite ?_ ?_
   | refine LeO.bind ?_ (fun _ => ?_)
set_option maxHeartbeats 8000000 in
set_option maxRecDepth 100000 in
theorem spec_l4good.calls (k : Nat) (A0_0 : Option Addr) (c0_0 : Nat) (l0_0 : List (S39)) (A0_1 : Option Addr) (c0_1 : Nat) (l0_1 : List (S45)) (a0_2 : Int) (a0_3 : Int) (a0_4 : Int) (a1 : Int) (a2 : Int) (a3 : Int) (r : Bool) (w : World) (hr0_0 : Kd.C k39 w A0_0 l0_0.length l0_0) (hc0_0 : l0_0.length ≤ c0_0) (hr0_1 : Kd.C k45 w A0_1 l0_1.length l0_1) (hc0_1 : l0_1.length ≤ c0_1) (h : spec_l4good.f k l0_0 l0_1 a0_2 a0_3 a0_4 a1 a2 a3 = some r) :
  Calls Try.prog 44 #[.agg #[.slice A0_0 l0_0.length c0_0,.slice A0_1 l0_1.length c0_1,.int .i64 a0_2,.int .i64 a0_3,.int .i64 a0_4],.int .i64 a1,.int .i64 a2,.int .i64 a3] w fun e w' => e = .returned (.bool r)∧Below w.heap.size w w':=by
 have hu26:=Try.underlying26
 have HR0_0:=Am hr0_0
 have HC0_0:=Am hc0_0
 clear hr0_0 hc0_0
 have HR0_1:=Am hr0_1
 have HC0_1:=Am hc0_1
 clear hr0_1 hc0_1
 have HB:=Am (Below.refl w.heap.size w)
 have H : ((spec_ProfileOk.f k l0_0 l0_1 a0_2 a0_3 a0_4).bind fun t126 => (if t126 = 0 then ((spec_l1in.f a1 1 20).bind fun t127 => (if t127 = true then ((spec_l1in.f a2 0 a0_3).bind fun t128 => (if t128 = true then (if (wrap64 (a0_3 - a2)) ≤ 2000 then ((spec_l1in.f a3 0 2000).bind fun t129 => (some t129)) else (some false)) else (some false))) else (some false))) else (some false))) = some r:=h
 clear h
 replace H:=Option.bind_eq_some_iff.mp H
 obtain ⟨t126,A50,H⟩:=H
 replace H : (if t126 = 0 then ((spec_l1in.f a1 1 20).bind fun t127 => (if t127 = true then ((spec_l1in.f a2 0 a0_3).bind fun t128 => (if t128 = true then (if (wrap64 (a0_3 - a2)) ≤ 2000 then ((spec_l1in.f a3 0 2000).bind fun t129 => (some t129)) else (some false)) else (some false))) else (some false))) else (some false)) = some r:=H
 have A5:=Am A50
 clear A50
 by_cases c6 : t126 = 0
 ·rw [if_pos c6] at H
  have c6b0 : (t126 == 0) = true:=beq_iff_eq.mpr c6
  have c6b1 : (t126 != 0) = false:=bne_eq_false_iff_eq.mpr c6
  clear c6
  replace H:=Option.bind_eq_some_iff.mp H
  obtain ⟨t127,A70,H⟩:=H
  replace H : (if t127 = true then ((spec_l1in.f a2 0 a0_3).bind fun t128 => (if t128 = true then (if (wrap64 (a0_3 - a2)) ≤ 2000 then ((spec_l1in.f a3 0 2000).bind fun t129 => (some t129)) else (some false)) else (some false))) else (some false)) = some r:=H
  have A7:=Am A70
  clear A70
  by_cases c8 : t127 = true
  ·subst c8
   have H1 : ((spec_l1in.f a2 0 a0_3).bind fun t128 => (if t128 = true then (if (wrap64 (a0_3 - a2)) ≤ 2000 then ((spec_l1in.f a3 0 2000).bind fun t129 => (some t129)) else (some false)) else (some false))) = some r:=by rw [if_pos rfl] at H;exact H
   clear H
   have H:=H1
   clear H1
   replace H:=Option.bind_eq_some_iff.mp H
   obtain ⟨t128,A90,H⟩:=H
   replace H : (if t128 = true then (if (wrap64 (a0_3 - a2)) ≤ 2000 then ((spec_l1in.f a3 0 2000).bind fun t129 => (some t129)) else (some false)) else (some false)) = some r:=H
   have A9:=Am A90
   clear A90
   by_cases c10 : t128 = true
   ·subst c10
    have H1 : (if (wrap64 (a0_3 - a2)) ≤ 2000 then ((spec_l1in.f a3 0 2000).bind fun t129 => (some t129)) else (some false)) = some r:=by rw [if_pos rfl] at H;exact H
    clear H
    have H:=H1
    clear H1
    by_cases c11 : (wrap64 (a0_3 - a2)) ≤ 2000
    ·rw [if_pos c11] at H
     have c11b0 : decide ((wrap64 (a0_3 - a2)) ≤ 2000) = true:=decide_eq_true c11
     clear c11
     replace H:=Option.bind_eq_some_iff.mp H
     obtain ⟨t129,A120,H⟩:=H
     replace H : (some t129) = some r:=H
     have A12:=Am A120
     clear A120
     obtain rfl:=Option.some.inj H
     go_enter Try.func44,Try.ntmps44
     go_wp2_with (first|((with_reducible refine gate_dst (N:=4) rfl ?_);refine box_event ?hg (N:=4) ?hd (cs:=#[.slice A0_0 l0_0.length c0_0,.slice A0_1 l0_1.length c0_1,.int .i64 a0_2,.int .i64 a0_3,.int .i64 a0_4]) (t:=26) ?hr ?_;(case hd => rfl);(case hg => rfl);(case hr => first|(go_simp;done)|(go_simp;rfl));intro gb125 hg w13 hbox hb;have n0_:=Am (below_step (by repeat (first|(with_reducible first|exact HB.out|apply bA|apply bN|apply bD)|exact HB.out)) hb);have n1_:=Am (hbox);have n2_:=Am ((by rw [hg];exact (below_size (by repeat (first|(with_reducible first|exact HB.out|apply bA|apply bN|apply bD)|exact HB.out))) : w.heap.size ≤ gb125));have n3_:=Am ((by rw [hg];exact (below_size (by repeat (first|(with_reducible first|exact HB.out|apply bA|apply bN|apply bD)|exact HB.out))) : w.heap.size ≤ gb125));clear HB;have HB:=n0_;have BK125:=n1_;have GW125:=n2_;have GE125:=n3_;clear n0_ n1_ n2_ n3_;clear hb hbox hg;have hcz14_0 : w13.cell? ⟨gb125,0,none⟩ = some (.slice A0_0 l0_0.length c0_0):=(kC BK125.out 0).trans rfl;have hcz14_1 : w13.cell? ⟨gb125,1,none⟩ = some (.slice A0_1 l0_1.length c0_1):=(kC BK125.out 1).trans rfl;have hcz14_2 : w13.cell? ⟨gb125,2,none⟩ = some (.int .i64 a0_2):=(kC BK125.out 2).trans rfl;have hcz14_3 : w13.cell? ⟨gb125,3,none⟩ = some (.int .i64 a0_3):=(kC BK125.out 3).trans rfl;have hcz14_4 : w13.cell? ⟨gb125,4,none⟩ = some (.int .i64 a0_4):=(kC BK125.out 4).trans rfl;have hfz14_0:=kF BK125.out 0;have hfz14_1:=kF BK125.out 1;have hfz14_2:=kF BK125.out 2;have hfz14_3:=kF BK125.out 3;have hfz14_4:=kF BK125.out 4)|((with_reducible refine gate_callee (f:=20) rfl ?_);refine goesL_ (some 10) rfl rfl Try.func20 (by kernel_rfl) rfl #[.agg #[.slice A0_0 l0_0.length c0_0,.slice A0_1 l0_1.length c0_1,.int .i64 a0_2,.int .i64 a0_3,.int .i64 a0_4]] rfl (by (try simp only [List.map_toArray,List.map_cons,List.map_nil]);first|done|rfl|(simp only [List.length_drop,List.length_take];rfl)) ?_;(with_reducible refine (spec_ProfileOk.calls k _ _ l0_0 _ _ l0_1 a0_2 a0_3 a0_4 t126 _ ?side1 ?side2 ?side3 ?side4 A5.out).mono ?_);(case side1 => repeat (first|exact (Kd.C_below HR0_0.out HB.out)|(with_reducible refine Kd.C_alloc ?_ _)|(with_reducible refine Kd.C_drewN ?_ _)|(with_reducible refine Kd.C_drew ?_)));(case side2 => exact HC0_0.out);(case side3 => repeat (first|exact (Kd.C_below HR0_1.out HB.out)|(with_reducible refine Kd.C_alloc ?_ _)|(with_reducible refine Kd.C_drewN ?_ _)|(with_reducible refine Kd.C_drew ?_)));(case side4 => exact HC0_1.out);rintro e w15 ⟨rfl,hb⟩;refine ⟨_,rfl,?_⟩;have n0_:=Am (blk_below (g:=gb125) (o:=.cells #[.slice A0_0 l0_0.length c0_0,.slice A0_1 l0_1.length c0_1,.int .i64 a0_2,.int .i64 a0_3,.int .i64 a0_4] 26 (0,0)) (by (with_reducible repeat (first|refine kN ?_ _|refine kD ?_|refine kA ?_ _));exact BK125.out) hb);have n1_:=Am (below_step (by repeat (first|(with_reducible first|exact HB.out|apply bA|apply bN|apply bD|refine bS ?_ GE125.out)|exact HB.out)) hb);clear BK125;clear HB;have BK125:=n0_;have HB:=n1_;clear n0_ n1_;(try clear hb);(try clear hb2);(try clear hk);(try clear hi))|(go_at_call 54;(with_reducible refine (spec_l1in.calls a1 1 20 true _ A7.out).mono ?_);rintro e w' ⟨rfl,⟨nd,rfl⟩⟩;have hcz16_0 : w15.cell? ⟨gb125,0,none⟩ = some (.slice A0_0 l0_0.length c0_0):=(kC BK125.out 0).trans rfl;have hcz16_1 : w15.cell? ⟨gb125,1,none⟩ = some (.slice A0_1 l0_1.length c0_1):=(kC BK125.out 1).trans rfl;have hcz16_2 : w15.cell? ⟨gb125,2,none⟩ = some (.int .i64 a0_2):=(kC BK125.out 2).trans rfl;have hcz16_3 : w15.cell? ⟨gb125,3,none⟩ = some (.int .i64 a0_3):=(kC BK125.out 3).trans rfl;have hcz16_4 : w15.cell? ⟨gb125,4,none⟩ = some (.int .i64 a0_4):=(kC BK125.out 4).trans rfl;have hfz16_0:=kF BK125.out 0;have hfz16_1:=kF BK125.out 1;have hfz16_2:=kF BK125.out 2;have hfz16_3:=kF BK125.out 3;have hfz16_4:=kF BK125.out 4)|(go_at_call 54;(with_reducible refine (spec_l1in.calls a2 0 a0_3 true _ A9.out).mono ?_);rintro e w' ⟨rfl,⟨nd,rfl⟩⟩)|(go_at_call 54;(with_reducible refine (spec_l1in.calls a3 0 2000 t129 _ A12.out).mono ?_);rintro e w' ⟨rfl,⟨nd,rfl⟩⟩))
     go_ret
     exact ⟨by first|rfl|(simp [errW_none,errW_some] <;> rfl)|(simp [*,errW_none,errW_some] <;> rfl),by repeat (first|(with_reducible first|exact HB.out|apply bA|apply bN|apply bD|refine bS ?_ GE125.out)|exact HB.out)⟩
    ·rw [if_neg c11] at H
     have c11b0 : decide ((wrap64 (a0_3 - a2)) ≤ 2000) = false:=decide_eq_false c11
     clear c11
     obtain rfl:=Option.some.inj H
     go_enter Try.func44,Try.ntmps44
     go_wp2_with (first|((with_reducible refine gate_dst (N:=4) rfl ?_);refine box_event ?hg (N:=4) ?hd (cs:=#[.slice A0_0 l0_0.length c0_0,.slice A0_1 l0_1.length c0_1,.int .i64 a0_2,.int .i64 a0_3,.int .i64 a0_4]) (t:=26) ?hr ?_;(case hd => rfl);(case hg => rfl);(case hr => first|(go_simp;done)|(go_simp;rfl));intro gb125 hg w17 hbox hb;have n0_:=Am (below_step (by repeat (first|(with_reducible first|exact HB.out|apply bA|apply bN|apply bD)|exact HB.out)) hb);have n1_:=Am (hbox);have n2_:=Am ((by rw [hg];exact (below_size (by repeat (first|(with_reducible first|exact HB.out|apply bA|apply bN|apply bD)|exact HB.out))) : w.heap.size ≤ gb125));have n3_:=Am ((by rw [hg];exact (below_size (by repeat (first|(with_reducible first|exact HB.out|apply bA|apply bN|apply bD)|exact HB.out))) : w.heap.size ≤ gb125));clear HB;have HB:=n0_;have BK125:=n1_;have GW125:=n2_;have GE125:=n3_;clear n0_ n1_ n2_ n3_;clear hb hbox hg;have hcz18_0 : w17.cell? ⟨gb125,0,none⟩ = some (.slice A0_0 l0_0.length c0_0):=(kC BK125.out 0).trans rfl;have hcz18_1 : w17.cell? ⟨gb125,1,none⟩ = some (.slice A0_1 l0_1.length c0_1):=(kC BK125.out 1).trans rfl;have hcz18_2 : w17.cell? ⟨gb125,2,none⟩ = some (.int .i64 a0_2):=(kC BK125.out 2).trans rfl;have hcz18_3 : w17.cell? ⟨gb125,3,none⟩ = some (.int .i64 a0_3):=(kC BK125.out 3).trans rfl;have hcz18_4 : w17.cell? ⟨gb125,4,none⟩ = some (.int .i64 a0_4):=(kC BK125.out 4).trans rfl;have hfz18_0:=kF BK125.out 0;have hfz18_1:=kF BK125.out 1;have hfz18_2:=kF BK125.out 2;have hfz18_3:=kF BK125.out 3;have hfz18_4:=kF BK125.out 4)|((with_reducible refine gate_callee (f:=20) rfl ?_);refine goesL_ (some 10) rfl rfl Try.func20 (by kernel_rfl) rfl #[.agg #[.slice A0_0 l0_0.length c0_0,.slice A0_1 l0_1.length c0_1,.int .i64 a0_2,.int .i64 a0_3,.int .i64 a0_4]] rfl (by (try simp only [List.map_toArray,List.map_cons,List.map_nil]);first|done|rfl|(simp only [List.length_drop,List.length_take];rfl)) ?_;(with_reducible refine (spec_ProfileOk.calls k _ _ l0_0 _ _ l0_1 a0_2 a0_3 a0_4 t126 _ ?side1 ?side2 ?side3 ?side4 A5.out).mono ?_);(case side1 => repeat (first|exact (Kd.C_below HR0_0.out HB.out)|(with_reducible refine Kd.C_alloc ?_ _)|(with_reducible refine Kd.C_drewN ?_ _)|(with_reducible refine Kd.C_drew ?_)));(case side2 => exact HC0_0.out);(case side3 => repeat (first|exact (Kd.C_below HR0_1.out HB.out)|(with_reducible refine Kd.C_alloc ?_ _)|(with_reducible refine Kd.C_drewN ?_ _)|(with_reducible refine Kd.C_drew ?_)));(case side4 => exact HC0_1.out);rintro e w19 ⟨rfl,hb⟩;refine ⟨_,rfl,?_⟩;have n0_:=Am (blk_below (g:=gb125) (o:=.cells #[.slice A0_0 l0_0.length c0_0,.slice A0_1 l0_1.length c0_1,.int .i64 a0_2,.int .i64 a0_3,.int .i64 a0_4] 26 (0,0)) (by (with_reducible repeat (first|refine kN ?_ _|refine kD ?_|refine kA ?_ _));exact BK125.out) hb);have n1_:=Am (below_step (by repeat (first|(with_reducible first|exact HB.out|apply bA|apply bN|apply bD|refine bS ?_ GE125.out)|exact HB.out)) hb);clear BK125;clear HB;have BK125:=n0_;have HB:=n1_;clear n0_ n1_;(try clear hb);(try clear hb2);(try clear hk);(try clear hi))|(go_at_call 54;(with_reducible refine (spec_l1in.calls a1 1 20 true _ A7.out).mono ?_);rintro e w' ⟨rfl,⟨nd,rfl⟩⟩;have hcz20_0 : w19.cell? ⟨gb125,0,none⟩ = some (.slice A0_0 l0_0.length c0_0):=(kC BK125.out 0).trans rfl;have hcz20_1 : w19.cell? ⟨gb125,1,none⟩ = some (.slice A0_1 l0_1.length c0_1):=(kC BK125.out 1).trans rfl;have hcz20_2 : w19.cell? ⟨gb125,2,none⟩ = some (.int .i64 a0_2):=(kC BK125.out 2).trans rfl;have hcz20_3 : w19.cell? ⟨gb125,3,none⟩ = some (.int .i64 a0_3):=(kC BK125.out 3).trans rfl;have hcz20_4 : w19.cell? ⟨gb125,4,none⟩ = some (.int .i64 a0_4):=(kC BK125.out 4).trans rfl;have hfz20_0:=kF BK125.out 0;have hfz20_1:=kF BK125.out 1;have hfz20_2:=kF BK125.out 2;have hfz20_3:=kF BK125.out 3;have hfz20_4:=kF BK125.out 4)|(go_at_call 54;(with_reducible refine (spec_l1in.calls a2 0 a0_3 true _ A9.out).mono ?_);rintro e w' ⟨rfl,⟨nd,rfl⟩⟩))
     go_ret
     exact ⟨by first|rfl|(simp [errW_none,errW_some] <;> rfl)|(simp [*,errW_none,errW_some] <;> rfl),by repeat (first|(with_reducible first|exact HB.out|apply bA|apply bN|apply bD|refine bS ?_ GE125.out)|exact HB.out)⟩
   ·replace c10:=Bool.eq_false_iff.mpr c10
    subst c10
    have H1 : (some false) = some r:=by rw [if_neg (show ¬ (false = true) by decide)] at H;exact H
    clear H
    have H:=H1
    clear H1
    obtain rfl:=Option.some.inj H
    go_enter Try.func44,Try.ntmps44
    go_wp2_with (first|((with_reducible refine gate_dst (N:=4) rfl ?_);refine box_event ?hg (N:=4) ?hd (cs:=#[.slice A0_0 l0_0.length c0_0,.slice A0_1 l0_1.length c0_1,.int .i64 a0_2,.int .i64 a0_3,.int .i64 a0_4]) (t:=26) ?hr ?_;(case hd => rfl);(case hg => rfl);(case hr => first|(go_simp;done)|(go_simp;rfl));intro gb125 hg w21 hbox hb;have n0_:=Am (below_step (by repeat (first|(with_reducible first|exact HB.out|apply bA|apply bN|apply bD)|exact HB.out)) hb);have n1_:=Am (hbox);have n2_:=Am ((by rw [hg];exact (below_size (by repeat (first|(with_reducible first|exact HB.out|apply bA|apply bN|apply bD)|exact HB.out))) : w.heap.size ≤ gb125));have n3_:=Am ((by rw [hg];exact (below_size (by repeat (first|(with_reducible first|exact HB.out|apply bA|apply bN|apply bD)|exact HB.out))) : w.heap.size ≤ gb125));clear HB;have HB:=n0_;have BK125:=n1_;have GW125:=n2_;have GE125:=n3_;clear n0_ n1_ n2_ n3_;clear hb hbox hg;have hcz22_0 : w21.cell? ⟨gb125,0,none⟩ = some (.slice A0_0 l0_0.length c0_0):=(kC BK125.out 0).trans rfl;have hcz22_1 : w21.cell? ⟨gb125,1,none⟩ = some (.slice A0_1 l0_1.length c0_1):=(kC BK125.out 1).trans rfl;have hcz22_2 : w21.cell? ⟨gb125,2,none⟩ = some (.int .i64 a0_2):=(kC BK125.out 2).trans rfl;have hcz22_3 : w21.cell? ⟨gb125,3,none⟩ = some (.int .i64 a0_3):=(kC BK125.out 3).trans rfl;have hcz22_4 : w21.cell? ⟨gb125,4,none⟩ = some (.int .i64 a0_4):=(kC BK125.out 4).trans rfl;have hfz22_0:=kF BK125.out 0;have hfz22_1:=kF BK125.out 1;have hfz22_2:=kF BK125.out 2;have hfz22_3:=kF BK125.out 3;have hfz22_4:=kF BK125.out 4)|((with_reducible refine gate_callee (f:=20) rfl ?_);refine goesL_ (some 10) rfl rfl Try.func20 (by kernel_rfl) rfl #[.agg #[.slice A0_0 l0_0.length c0_0,.slice A0_1 l0_1.length c0_1,.int .i64 a0_2,.int .i64 a0_3,.int .i64 a0_4]] rfl (by (try simp only [List.map_toArray,List.map_cons,List.map_nil]);first|done|rfl|(simp only [List.length_drop,List.length_take];rfl)) ?_;(with_reducible refine (spec_ProfileOk.calls k _ _ l0_0 _ _ l0_1 a0_2 a0_3 a0_4 t126 _ ?side1 ?side2 ?side3 ?side4 A5.out).mono ?_);(case side1 => repeat (first|exact (Kd.C_below HR0_0.out HB.out)|(with_reducible refine Kd.C_alloc ?_ _)|(with_reducible refine Kd.C_drewN ?_ _)|(with_reducible refine Kd.C_drew ?_)));(case side2 => exact HC0_0.out);(case side3 => repeat (first|exact (Kd.C_below HR0_1.out HB.out)|(with_reducible refine Kd.C_alloc ?_ _)|(with_reducible refine Kd.C_drewN ?_ _)|(with_reducible refine Kd.C_drew ?_)));(case side4 => exact HC0_1.out);rintro e w23 ⟨rfl,hb⟩;refine ⟨_,rfl,?_⟩;have n0_:=Am (blk_below (g:=gb125) (o:=.cells #[.slice A0_0 l0_0.length c0_0,.slice A0_1 l0_1.length c0_1,.int .i64 a0_2,.int .i64 a0_3,.int .i64 a0_4] 26 (0,0)) (by (with_reducible repeat (first|refine kN ?_ _|refine kD ?_|refine kA ?_ _));exact BK125.out) hb);have n1_:=Am (below_step (by repeat (first|(with_reducible first|exact HB.out|apply bA|apply bN|apply bD|refine bS ?_ GE125.out)|exact HB.out)) hb);clear BK125;clear HB;have BK125:=n0_;have HB:=n1_;clear n0_ n1_;(try clear hb);(try clear hb2);(try clear hk);(try clear hi))|(go_at_call 54;(with_reducible refine (spec_l1in.calls a1 1 20 true _ A7.out).mono ?_);rintro e w' ⟨rfl,⟨nd,rfl⟩⟩;have hcz24_0 : w23.cell? ⟨gb125,0,none⟩ = some (.slice A0_0 l0_0.length c0_0):=(kC BK125.out 0).trans rfl;have hcz24_1 : w23.cell? ⟨gb125,1,none⟩ = some (.slice A0_1 l0_1.length c0_1):=(kC BK125.out 1).trans rfl;have hcz24_2 : w23.cell? ⟨gb125,2,none⟩ = some (.int .i64 a0_2):=(kC BK125.out 2).trans rfl;have hcz24_3 : w23.cell? ⟨gb125,3,none⟩ = some (.int .i64 a0_3):=(kC BK125.out 3).trans rfl;have hcz24_4 : w23.cell? ⟨gb125,4,none⟩ = some (.int .i64 a0_4):=(kC BK125.out 4).trans rfl;have hfz24_0:=kF BK125.out 0;have hfz24_1:=kF BK125.out 1;have hfz24_2:=kF BK125.out 2;have hfz24_3:=kF BK125.out 3;have hfz24_4:=kF BK125.out 4)|(go_at_call 54;(with_reducible refine (spec_l1in.calls a2 0 a0_3 false _ A9.out).mono ?_);rintro e w' ⟨rfl,⟨nd,rfl⟩⟩))
    go_ret
    exact ⟨by first|rfl|(simp [errW_none,errW_some] <;> rfl)|(simp [*,errW_none,errW_some] <;> rfl),by repeat (first|(with_reducible first|exact HB.out|apply bA|apply bN|apply bD|refine bS ?_ GE125.out)|exact HB.out)⟩
  ·replace c8:=Bool.eq_false_iff.mpr c8
   subst c8
   have H1 : (some false) = some r:=by rw [if_neg (show ¬ (false = true) by decide)] at H;exact H
   clear H
   have H:=H1
   clear H1
   obtain rfl:=Option.some.inj H
   go_enter Try.func44,Try.ntmps44
   go_wp2_with (first|((with_reducible refine gate_dst (N:=4) rfl ?_);refine box_event ?hg (N:=4) ?hd (cs:=#[.slice A0_0 l0_0.length c0_0,.slice A0_1 l0_1.length c0_1,.int .i64 a0_2,.int .i64 a0_3,.int .i64 a0_4]) (t:=26) ?hr ?_;(case hd => rfl);(case hg => rfl);(case hr => first|(go_simp;done)|(go_simp;rfl));intro gb125 hg w25 hbox hb;have n0_:=Am (below_step (by repeat (first|(with_reducible first|exact HB.out|apply bA|apply bN|apply bD)|exact HB.out)) hb);have n1_:=Am (hbox);have n2_:=Am ((by rw [hg];exact (below_size (by repeat (first|(with_reducible first|exact HB.out|apply bA|apply bN|apply bD)|exact HB.out))) : w.heap.size ≤ gb125));have n3_:=Am ((by rw [hg];exact (below_size (by repeat (first|(with_reducible first|exact HB.out|apply bA|apply bN|apply bD)|exact HB.out))) : w.heap.size ≤ gb125));clear HB;have HB:=n0_;have BK125:=n1_;have GW125:=n2_;have GE125:=n3_;clear n0_ n1_ n2_ n3_;clear hb hbox hg;have hcz26_0 : w25.cell? ⟨gb125,0,none⟩ = some (.slice A0_0 l0_0.length c0_0):=(kC BK125.out 0).trans rfl;have hcz26_1 : w25.cell? ⟨gb125,1,none⟩ = some (.slice A0_1 l0_1.length c0_1):=(kC BK125.out 1).trans rfl;have hcz26_2 : w25.cell? ⟨gb125,2,none⟩ = some (.int .i64 a0_2):=(kC BK125.out 2).trans rfl;have hcz26_3 : w25.cell? ⟨gb125,3,none⟩ = some (.int .i64 a0_3):=(kC BK125.out 3).trans rfl;have hcz26_4 : w25.cell? ⟨gb125,4,none⟩ = some (.int .i64 a0_4):=(kC BK125.out 4).trans rfl;have hfz26_0:=kF BK125.out 0;have hfz26_1:=kF BK125.out 1;have hfz26_2:=kF BK125.out 2;have hfz26_3:=kF BK125.out 3;have hfz26_4:=kF BK125.out 4)|((with_reducible refine gate_callee (f:=20) rfl ?_);refine goesL_ (some 10) rfl rfl Try.func20 (by kernel_rfl) rfl #[.agg #[.slice A0_0 l0_0.length c0_0,.slice A0_1 l0_1.length c0_1,.int .i64 a0_2,.int .i64 a0_3,.int .i64 a0_4]] rfl (by (try simp only [List.map_toArray,List.map_cons,List.map_nil]);first|done|rfl|(simp only [List.length_drop,List.length_take];rfl)) ?_;(with_reducible refine (spec_ProfileOk.calls k _ _ l0_0 _ _ l0_1 a0_2 a0_3 a0_4 t126 _ ?side1 ?side2 ?side3 ?side4 A5.out).mono ?_);(case side1 => repeat (first|exact (Kd.C_below HR0_0.out HB.out)|(with_reducible refine Kd.C_alloc ?_ _)|(with_reducible refine Kd.C_drewN ?_ _)|(with_reducible refine Kd.C_drew ?_)));(case side2 => exact HC0_0.out);(case side3 => repeat (first|exact (Kd.C_below HR0_1.out HB.out)|(with_reducible refine Kd.C_alloc ?_ _)|(with_reducible refine Kd.C_drewN ?_ _)|(with_reducible refine Kd.C_drew ?_)));(case side4 => exact HC0_1.out);rintro e w27 ⟨rfl,hb⟩;refine ⟨_,rfl,?_⟩;have n0_:=Am (blk_below (g:=gb125) (o:=.cells #[.slice A0_0 l0_0.length c0_0,.slice A0_1 l0_1.length c0_1,.int .i64 a0_2,.int .i64 a0_3,.int .i64 a0_4] 26 (0,0)) (by (with_reducible repeat (first|refine kN ?_ _|refine kD ?_|refine kA ?_ _));exact BK125.out) hb);have n1_:=Am (below_step (by repeat (first|(with_reducible first|exact HB.out|apply bA|apply bN|apply bD|refine bS ?_ GE125.out)|exact HB.out)) hb);clear BK125;clear HB;have BK125:=n0_;have HB:=n1_;clear n0_ n1_;(try clear hb);(try clear hb2);(try clear hk);(try clear hi))|(go_at_call 54;(with_reducible refine (spec_l1in.calls a1 1 20 false _ A7.out).mono ?_);rintro e w' ⟨rfl,⟨nd,rfl⟩⟩))
   go_ret
   exact ⟨by first|rfl|(simp [errW_none,errW_some] <;> rfl)|(simp [*,errW_none,errW_some] <;> rfl),by repeat (first|(with_reducible first|exact HB.out|apply bA|apply bN|apply bD|refine bS ?_ GE125.out)|exact HB.out)⟩
 ·rw [if_neg c6] at H
  have c6b0 : (t126 == 0) = false:=beq_eq_false_iff_ne.mpr c6
  have c6b1 : (t126 != 0) = true:=bne_iff_ne.mpr c6
  obtain rfl:=Option.some.inj H
  go_enter Try.func44,Try.ntmps44
  go_wp2_with (first|((with_reducible refine gate_dst (N:=4) rfl ?_);refine box_event ?hg (N:=4) ?hd (cs:=#[.slice A0_0 l0_0.length c0_0,.slice A0_1 l0_1.length c0_1,.int .i64 a0_2,.int .i64 a0_3,.int .i64 a0_4]) (t:=26) ?hr ?_;(case hd => rfl);(case hg => rfl);(case hr => first|(go_simp;done)|(go_simp;rfl));intro gb125 hg w28 hbox hb;have n0_:=Am (below_step (by repeat (first|(with_reducible first|exact HB.out|apply bA|apply bN|apply bD)|exact HB.out)) hb);have n1_:=Am (hbox);have n2_:=Am ((by rw [hg];exact (below_size (by repeat (first|(with_reducible first|exact HB.out|apply bA|apply bN|apply bD)|exact HB.out))) : w.heap.size ≤ gb125));have n3_:=Am ((by rw [hg];exact (below_size (by repeat (first|(with_reducible first|exact HB.out|apply bA|apply bN|apply bD)|exact HB.out))) : w.heap.size ≤ gb125));clear HB;have HB:=n0_;have BK125:=n1_;have GW125:=n2_;have GE125:=n3_;clear n0_ n1_ n2_ n3_;clear hb hbox hg;have hcz29_0 : w28.cell? ⟨gb125,0,none⟩ = some (.slice A0_0 l0_0.length c0_0):=(kC BK125.out 0).trans rfl;have hcz29_1 : w28.cell? ⟨gb125,1,none⟩ = some (.slice A0_1 l0_1.length c0_1):=(kC BK125.out 1).trans rfl;have hcz29_2 : w28.cell? ⟨gb125,2,none⟩ = some (.int .i64 a0_2):=(kC BK125.out 2).trans rfl;have hcz29_3 : w28.cell? ⟨gb125,3,none⟩ = some (.int .i64 a0_3):=(kC BK125.out 3).trans rfl;have hcz29_4 : w28.cell? ⟨gb125,4,none⟩ = some (.int .i64 a0_4):=(kC BK125.out 4).trans rfl;have hfz29_0:=kF BK125.out 0;have hfz29_1:=kF BK125.out 1;have hfz29_2:=kF BK125.out 2;have hfz29_3:=kF BK125.out 3;have hfz29_4:=kF BK125.out 4)|((with_reducible refine gate_callee (f:=20) rfl ?_);refine goesL_ (some 10) rfl rfl Try.func20 (by kernel_rfl) rfl #[.agg #[.slice A0_0 l0_0.length c0_0,.slice A0_1 l0_1.length c0_1,.int .i64 a0_2,.int .i64 a0_3,.int .i64 a0_4]] rfl (by (try simp only [List.map_toArray,List.map_cons,List.map_nil]);first|done|rfl|(simp only [List.length_drop,List.length_take];rfl)) ?_;(with_reducible refine (spec_ProfileOk.calls k _ _ l0_0 _ _ l0_1 a0_2 a0_3 a0_4 t126 _ ?side1 ?side2 ?side3 ?side4 A5.out).mono ?_);(case side1 => repeat (first|exact (Kd.C_below HR0_0.out HB.out)|(with_reducible refine Kd.C_alloc ?_ _)|(with_reducible refine Kd.C_drewN ?_ _)|(with_reducible refine Kd.C_drew ?_)));(case side2 => exact HC0_0.out);(case side3 => repeat (first|exact (Kd.C_below HR0_1.out HB.out)|(with_reducible refine Kd.C_alloc ?_ _)|(with_reducible refine Kd.C_drewN ?_ _)|(with_reducible refine Kd.C_drew ?_)));(case side4 => exact HC0_1.out);rintro e w30 ⟨rfl,hb⟩;refine ⟨_,rfl,?_⟩;have n0_:=Am (blk_below (g:=gb125) (o:=.cells #[.slice A0_0 l0_0.length c0_0,.slice A0_1 l0_1.length c0_1,.int .i64 a0_2,.int .i64 a0_3,.int .i64 a0_4] 26 (0,0)) (by (with_reducible repeat (first|refine kN ?_ _|refine kD ?_|refine kA ?_ _));exact BK125.out) hb);have n1_:=Am (below_step (by repeat (first|(with_reducible first|exact HB.out|apply bA|apply bN|apply bD|refine bS ?_ GE125.out)|exact HB.out)) hb);clear BK125;clear HB;have BK125:=n0_;have HB:=n1_;clear n0_ n1_;(try clear hb);(try clear hb2);(try clear hk);(try clear hi)))
  go_ret
  exact ⟨by first|rfl|(simp [errW_none,errW_some] <;> rfl)|(simp [*,errW_none,errW_some] <;> rfl),by repeat (first|(with_reducible first|exact HB.out|apply bA|apply bN|apply bD|refine bS ?_ GE125.out)|exact HB.out)⟩

/-! ### spec_l2less: function 39 -/
def spec_l2less.f (a0 : Int) (a1 : Int) : Option (Int):=if a0 < a1 then (some 0) else (some (wrap64 (a0 - a1)))
set_option maxHeartbeats 8000000 in
set_option maxRecDepth 100000 in
theorem spec_l2less.calls (a0 : Int) (a1 : Int) (r : Int) (w : World) (h : spec_l2less.f a0 a1 = some r) :
  Calls Try.prog 39 #[.int .i64 a0,.int .i64 a1] w fun e w' => e = .returned (.int .i64 r)∧Drawn0 w w':=by
 have H : (if a0 < a1 then (some 0) else (some (wrap64 (a0 - a1)))) = some r:=h
 clear h
 by_cases c3 : a0 < a1
 ·rw [if_pos c3] at H
  have c3b0 : decide (a0 < a1) = true:=decide_eq_true c3
  clear c3
  obtain rfl:=Option.some.inj H
  go_enter Try.func39,Try.ntmps39
  go_wp2
  go_ret
  exact ⟨by first|rfl|(simp;done)|(simp [*];done),by repeat (first|exact Drawn0.refl _|apply Drawn0.step)⟩
 ·rw [if_neg c3] at H
  have c3b0 : decide (a0 < a1) = false:=decide_eq_false c3
  clear c3
  obtain rfl:=Option.some.inj H
  go_enter Try.func39,Try.ntmps39
  go_wp2
  go_ret
  exact ⟨by first|rfl|(simp;done)|(simp [*];done),by repeat (first|exact Drawn0.refl _|apply Drawn0.step)⟩

end Go.Proofs.Ytanjbdgmnecacaa.PE
