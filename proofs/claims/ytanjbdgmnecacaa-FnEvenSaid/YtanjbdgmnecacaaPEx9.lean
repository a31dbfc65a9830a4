-- Written by a program of this session (wip/print/myprint.py) over the kit's print, with contracts of its own; not a text of print.sh's.
import Derived.Test.YtanjbdgmnecacaaPEx0
import Derived.Test.YtanjbdgmnecacaaPEx6
import Derived.Test.YtanjbdgmnecacaaPEx8
namespace Go.Proofs.Ytanjbdgmnecacaa.PE
open Go.RowKit Go.Proofs.YtanjbdgmnecacaaW.PrintWords Go.Proofs.YtanjbdgmnecacaaW.PrintLast Go.Proofs.YtanjbdgmnecacaaW.PrintMore
attribute [local go_sem] max2_int min2_int max_two min_two   -- for this text's walks alone
set_option linter.unusedVariables false
set_option linter.unusedSimpArgs false

/-! ### spec_l3may: function 47 -/
def spec_l3may.f (k : Nat) (l0_0 : List (S39)) (l0_1 : List (S45)) (a0_2 : Int) (a0_3 : Int) (a0_4 : Int) (a1 : Int) (a2 : Int) : Option (Bool):=if a2 = 0 then (some (decide (a1 ≤ a0_3))) else (if (wrap64 (a1 + a2)) ≤ a0_3 then ((spec_l2over.f k l0_0 l0_1 a0_2 a0_3 a0_4 a1 (wrap64 (a1 + a2))).bind fun t140 => (some (decide (a2 ≤ t140)))) else (some false))
theorem spec_l3may.mono : ∀ a0 a1 a2 a3 a4 a5 a6 k,LeO (spec_l3may.f k a0 a1 a2 a3 a4 a5 a6) (spec_l3may.f (k + 1) a0 a1 a2 a3 a4 a5 a6):=by
 intro a0 a1 a2 a3 a4 a5 a6 k
 unfold spec_l3may.f
 repeat' first
   | (with_reducible exact spec_l2over.mono _ _ _ _ _ _ _ _)
   | (with_reducible exact LeO.refl _)
   | (with_reducible exact LeO.none _)
   | (with_reducible refine LeO.ite ?_ ?_)
   | (with_reducible refine LeO.bind ?_ (fun _ => ?_))
   | exact spec_l2over.mono _ _ _ _ _ _ _ _
   | exact LeO.none _
   | refine LeO.ite ?_ ?_
   | refine LeO.bind ?_ (fun _ => ?_)
set_option maxHeartbeats 8000000 in
set_option maxRecDepth 100000 in
theorem spec_l3may.calls (k : Nat) (A0_0 : Option Addr) (c0_0 : Nat) (l0_0 : List (S39)) (A0_1 : Option Addr) (c0_1 : Nat) (l0_1 : List (S45)) (a0_2 : Int) (a0_3 : Int) (a0_4 : Int) (a1 : Int) (a2 : Int) (r : Bool) (w : World) (hr0_0 : Kd.C k39 w A0_0 l0_0.length l0_0) (hc0_0 : l0_0.length ≤ c0_0) (hr0_1 : Kd.C k45 w A0_1 l0_1.length l0_1) (hc0_1 : l0_1.length ≤ c0_1) (h : spec_l3may.f k l0_0 l0_1 a0_2 a0_3 a0_4 a1 a2 = some r) :
  Calls Try.prog 47 #[.agg #[.slice A0_0 l0_0.length c0_0,.slice A0_1 l0_1.length c0_1,.int .i64 a0_2,.int .i64 a0_3,.int .i64 a0_4],.int .i64 a1,.int .i64 a2] w fun e w' => e = .returned (.bool r)∧Below w.heap.size w w':=by
 have hu26:=Try.underlying26
 have HR0_0:=Am hr0_0
 have HC0_0:=Am hc0_0
 clear hr0_0 hc0_0
 have HR0_1:=Am hr0_1
 have HC0_1:=Am hc0_1
 clear hr0_1 hc0_1
 have HB:=Am (Below.refl w.heap.size w)
 have H : (if a2 = 0 then (some (decide (a1 ≤ a0_3))) else (if (wrap64 (a1 + a2)) ≤ a0_3 then ((spec_l2over.f k l0_0 l0_1 a0_2 a0_3 a0_4 a1 (wrap64 (a1 + a2))).bind fun t140 => (some (decide (a2 ≤ t140)))) else (some false))) = some r:=h
 clear h
 by_cases c4 : a2 = 0
 ·rw [if_pos c4] at H
  have c4b0 : (a2 == 0) = true:=beq_iff_eq.mpr c4
  have c4b1 : (a2 != 0) = false:=bne_eq_false_iff_eq.mpr c4
  clear c4
  obtain rfl:=Option.some.inj H
  go_enter Try.func47,Try.ntmps47
  go_wp2_with (first|((with_reducible refine gate_dst (N:=3) rfl ?_);refine box_event ?hg (N:=3) ?hd (cs:=#[.slice A0_0 l0_0.length c0_0,.slice A0_1 l0_1.length c0_1,.int .i64 a0_2,.int .i64 a0_3,.int .i64 a0_4]) (t:=26) ?hr ?_;(case hd => rfl);(case hg => rfl);(case hr => first|(go_simp;done)|(go_simp;rfl));intro gb139 hg w5 hbox hb;have n0_:=Am (below_step (by repeat (first|(with_reducible first|exact HB.out|apply bA|apply bN|apply bD)|exact HB.out)) hb);have n1_:=Am (hbox);have n2_:=Am ((by rw [hg];exact (below_size (by repeat (first|(with_reducible first|exact HB.out|apply bA|apply bN|apply bD)|exact HB.out))) : w.heap.size ≤ gb139));have n3_:=Am ((by rw [hg];exact (below_size (by repeat (first|(with_reducible first|exact HB.out|apply bA|apply bN|apply bD)|exact HB.out))) : w.heap.size ≤ gb139));clear HB;have HB:=n0_;have BK139:=n1_;have GW139:=n2_;have GE139:=n3_;clear n0_ n1_ n2_ n3_;clear hb hbox hg;have hcz6_0 : w5.cell? ⟨gb139,0,none⟩ = some (.slice A0_0 l0_0.length c0_0):=(kC BK139.out 0).trans rfl;have hcz6_1 : w5.cell? ⟨gb139,1,none⟩ = some (.slice A0_1 l0_1.length c0_1):=(kC BK139.out 1).trans rfl;have hcz6_2 : w5.cell? ⟨gb139,2,none⟩ = some (.int .i64 a0_2):=(kC BK139.out 2).trans rfl;have hcz6_3 : w5.cell? ⟨gb139,3,none⟩ = some (.int .i64 a0_3):=(kC BK139.out 3).trans rfl;have hcz6_4 : w5.cell? ⟨gb139,4,none⟩ = some (.int .i64 a0_4):=(kC BK139.out 4).trans rfl;have hfz6_0:=kF BK139.out 0;have hfz6_1:=kF BK139.out 1;have hfz6_2:=kF BK139.out 2;have hfz6_3:=kF BK139.out 3;have hfz6_4:=kF BK139.out 4))
  go_ret
  exact ⟨by first|rfl|(simp [errW_none,errW_some] <;> rfl)|(simp [*,errW_none,errW_some] <;> rfl),by repeat (first|(with_reducible first|exact HB.out|apply bA|apply bN|apply bD|refine bS ?_ GE139.out)|exact HB.out)⟩
 ·rw [if_neg c4] at H
  have c4b0 : (a2 == 0) = false:=beq_eq_false_iff_ne.mpr c4
  have c4b1 : (a2 != 0) = true:=bne_iff_ne.mpr c4
  by_cases c7 : (wrap64 (a1 + a2)) ≤ a0_3
  ·rw [if_pos c7] at H
   have c7b0 : decide ((wrap64 (a1 + a2)) ≤ a0_3) = true:=decide_eq_true c7
   clear c7
   replace H:=Option.bind_eq_some_iff.mp H
   obtain ⟨t140,A80,H⟩:=H
   replace H : (some (decide (a2 ≤ t140))) = some r:=H
   have A8:=Am A80
   clear A80
   obtain rfl:=Option.some.inj H
   go_enter Try.func47,Try.ntmps47
   go_wp2_with (first|((with_reducible refine gate_dst (N:=3) rfl ?_);refine box_event ?hg (N:=3) ?hd (cs:=#[.slice A0_0 l0_0.length c0_0,.slice A0_1 l0_1.length c0_1,.int .i64 a0_2,.int .i64 a0_3,.int .i64 a0_4]) (t:=26) ?hr ?_;(case hd => rfl);(case hg => rfl);(case hr => first|(go_simp;done)|(go_simp;rfl));intro gb139 hg w9 hbox hb;have n0_:=Am (below_step (by repeat (first|(with_reducible first|exact HB.out|apply bA|apply bN|apply bD)|exact HB.out)) hb);have n1_:=Am (hbox);have n2_:=Am ((by rw [hg];exact (below_size (by repeat (first|(with_reducible first|exact HB.out|apply bA|apply bN|apply bD)|exact HB.out))) : w.heap.size ≤ gb139));have n3_:=Am ((by rw [hg];exact (below_size (by repeat (first|(with_reducible first|exact HB.out|apply bA|apply bN|apply bD)|exact HB.out))) : w.heap.size ≤ gb139));clear HB;have HB:=n0_;have BK139:=n1_;have GW139:=n2_;have GE139:=n3_;clear n0_ n1_ n2_ n3_;clear hb hbox hg;have hcz10_0 : w9.cell? ⟨gb139,0,none⟩ = some (.slice A0_0 l0_0.length c0_0):=(kC BK139.out 0).trans rfl;have hcz10_1 : w9.cell? ⟨gb139,1,none⟩ = some (.slice A0_1 l0_1.length c0_1):=(kC BK139.out 1).trans rfl;have hcz10_2 : w9.cell? ⟨gb139,2,none⟩ = some (.int .i64 a0_2):=(kC BK139.out 2).trans rfl;have hcz10_3 : w9.cell? ⟨gb139,3,none⟩ = some (.int .i64 a0_3):=(kC BK139.out 3).trans rfl;have hcz10_4 : w9.cell? ⟨gb139,4,none⟩ = some (.int .i64 a0_4):=(kC BK139.out 4).trans rfl;have hfz10_0:=kF BK139.out 0;have hfz10_1:=kF BK139.out 1;have hfz10_2:=kF BK139.out 2;have hfz10_3:=kF BK139.out 3;have hfz10_4:=kF BK139.out 4)|(go_at_call 64;(with_reducible refine (spec_l2over.calls k _ _ l0_0 _ _ l0_1 a0_2 a0_3 a0_4 a1 (wrap64 (a1 + a2)) t140 _ ?side1 ?side2 ?side3 ?side4 A8.out).mono ?_);(case side1 => repeat (first|exact (Kd.C_below HR0_0.out HB.out)|(with_reducible refine Kd.C_alloc ?_ _)|(with_reducible refine Kd.C_drewN ?_ _)|(with_reducible refine Kd.C_drew ?_)));(case side2 => exact HC0_0.out);(case side3 => repeat (first|exact (Kd.C_below HR0_1.out HB.out)|(with_reducible refine Kd.C_alloc ?_ _)|(with_reducible refine Kd.C_drewN ?_ _)|(with_reducible refine Kd.C_drew ?_)));(case side4 => exact HC0_1.out);rintro e w11 ⟨rfl,hb⟩;have n0_:=Am (blk_below (g:=gb139) (o:=.cells #[.slice A0_0 l0_0.length c0_0,.slice A0_1 l0_1.length c0_1,.int .i64 a0_2,.int .i64 a0_3,.int .i64 a0_4] 26 (0,0)) (by (with_reducible repeat (first|refine kN ?_ _|refine kD ?_|refine kA ?_ _));exact BK139.out) hb);have n1_:=Am (below_step (by repeat (first|(with_reducible first|exact HB.out|apply bA|apply bN|apply bD|refine bS ?_ GE139.out)|exact HB.out)) hb);clear BK139;clear HB;have BK139:=n0_;have HB:=n1_;clear n0_ n1_;(try clear hb);(try clear hb2);(try clear hk);(try clear hi)))
   go_ret
   exact ⟨by first|rfl|(simp [errW_none,errW_some] <;> rfl)|(simp [*,errW_none,errW_some] <;> rfl),by repeat (first|(with_reducible first|exact HB.out|apply bA|apply bN|apply bD|refine bS ?_ GE139.out)|exact HB.out)⟩
  ·rw [if_neg c7] at H
   have c7b0 : decide ((wrap64 (a1 + a2)) ≤ a0_3) = false:=decide_eq_false c7
   clear c7
   obtain rfl:=Option.some.inj H
   go_enter Try.func47,Try.ntmps47
   go_wp2_with (first|((with_reducible refine gate_dst (N:=3) rfl ?_);refine box_event ?hg (N:=3) ?hd (cs:=#[.slice A0_0 l0_0.length c0_0,.slice A0_1 l0_1.length c0_1,.int .i64 a0_2,.int .i64 a0_3,.int .i64 a0_4]) (t:=26) ?hr ?_;(case hd => rfl);(case hg => rfl);(case hr => first|(go_simp;done)|(go_simp;rfl));intro gb139 hg w12 hbox hb;have n0_:=Am (below_step (by repeat (first|(with_reducible first|exact HB.out|apply bA|apply bN|apply bD)|exact HB.out)) hb);have n1_:=Am (hbox);have n2_:=Am ((by rw [hg];exact (below_size (by repeat (first|(with_reducible first|exact HB.out|apply bA|apply bN|apply bD)|exact HB.out))) : w.heap.size ≤ gb139));have n3_:=Am ((by rw [hg];exact (below_size (by repeat (first|(with_reducible first|exact HB.out|apply bA|apply bN|apply bD)|exact HB.out))) : w.heap.size ≤ gb139));clear HB;have HB:=n0_;have BK139:=n1_;have GW139:=n2_;have GE139:=n3_;clear n0_ n1_ n2_ n3_;clear hb hbox hg;have hcz13_0 : w12.cell? ⟨gb139,0,none⟩ = some (.slice A0_0 l0_0.length c0_0):=(kC BK139.out 0).trans rfl;have hcz13_1 : w12.cell? ⟨gb139,1,none⟩ = some (.slice A0_1 l0_1.length c0_1):=(kC BK139.out 1).trans rfl;have hcz13_2 : w12.cell? ⟨gb139,2,none⟩ = some (.int .i64 a0_2):=(kC BK139.out 2).trans rfl;have hcz13_3 : w12.cell? ⟨gb139,3,none⟩ = some (.int .i64 a0_3):=(kC BK139.out 3).trans rfl;have hcz13_4 : w12.cell? ⟨gb139,4,none⟩ = some (.int .i64 a0_4):=(kC BK139.out 4).trans rfl;have hfz13_0:=kF BK139.out 0;have hfz13_1:=kF BK139.out 1;have hfz13_2:=kF BK139.out 2;have hfz13_3:=kF BK139.out 3;have hfz13_4:=kF BK139.out 4))
   go_ret
   exact ⟨by first|rfl|(simp [errW_none,errW_some] <;> rfl)|(simp [*,errW_none,errW_some] <;> rfl),by repeat (first|(with_reducible first|exact HB.out|apply bA|apply bN|apply bD|refine bS ?_ GE139.out)|exact HB.out)⟩

/-! ### spec_l4G_home: function 48 -/
def spec_l4G_home.f (s0_0 : List (S39)) (s0_1 : List (S45)) (s0_2 : Int) (s0_3 : Int) (s0_4 : Int) (s0_5 : Int) (s0_6 : Int) (s0_7 : Int) (s0_8 : List Int) (a1 : Int) (a2 : Int) : Option (Bool × Int × Int × Int × Int × Int × Int):=if a2 = 0 then (if (wrap64 (s0_6 + a1)) ≤ s0_3 then (some (decide ((wrap64 (s0_6 + a1)) ≥ (wrap64 (s0_3 - s0_7))),s0_2,s0_3,s0_4,s0_5,s0_6,s0_7)) else (some (false,s0_2,s0_3,s0_4,s0_5,s0_6,s0_7))) else (some (false,s0_2,s0_3,s0_4,s0_5,s0_6,s0_7))
set_option maxHeartbeats 8000000 in
set_option maxRecDepth 100000 in
theorem spec_l4G_home.calls (g : Nat) (s0_0 : List (S39)) (s0_1 : List (S45)) (s0_2 : Int) (s0_3 : Int) (s0_4 : Int) (s0_5 : Int) (s0_6 : Int) (s0_7 : Int) (s0_8 : List Int) (a1 : Int) (a2 : Int) (r1 : Bool) (r2 : Int) (r3 : Int) (r4 : Int) (r5 : Int) (r6 : Int) (r7 : Int) (w0 w : World) (hI : IsS72 w0 w g s0_0 s0_1 s0_2 s0_3 s0_4 s0_5 s0_6 s0_7 s0_8) (hB : Below w0.heap.size w0 w) (h : spec_l4G_home.f s0_0 s0_1 s0_2 s0_3 s0_4 s0_5 s0_6 s0_7 s0_8 a1 a2 = some (r1,r2,r3,r4,r5,r6,r7)) :
  Calls Try.prog 48 #[.pointer (some ⟨g,0,none⟩),.int .i64 a1,.int .i64 a2] w fun e w' => e = .returned (.bool r1)∧IsS72 w0 w' g s0_0 s0_1 r2 r3 r4 r5 r6 r7 s0_8∧Below w0.heap.size w0 w'∧KeepBut w w' g none:=by
 have HI0:=Am hI
 have HK:=Am (KeepBut.refl w g none)
 have HL:=Am hB.size
 clear hI
 have HW0:=Am hB.size
 have HB:=Am hB
 clear hB
 have H : (if a2 = 0 then (if (wrap64 (s0_6 + a1)) ≤ s0_3 then (some (decide ((wrap64 (s0_6 + a1)) ≥ (wrap64 (s0_3 - s0_7))),s0_2,s0_3,s0_4,s0_5,s0_6,s0_7)) else (some (false,s0_2,s0_3,s0_4,s0_5,s0_6,s0_7))) else (some (false,s0_2,s0_3,s0_4,s0_5,s0_6,s0_7))) = some (r1,r2,r3,r4,r5,r6,r7):=h
 clear h
 by_cases c4 : a2 = 0
 ·rw [if_pos c4] at H
  have c4b0 : (a2 == 0) = true:=beq_iff_eq.mpr c4
  have c4b1 : (a2 != 0) = false:=bne_eq_false_iff_eq.mpr c4
  clear c4
  by_cases c5 : (wrap64 (s0_6 + a1)) ≤ s0_3
  ·rw [if_pos c5] at H
   have c5b0 : decide ((wrap64 (s0_6 + a1)) ≤ s0_3) = true:=decide_eq_true c5
   clear c5
   simp only [Option.some.injEq,Prod.mk.injEq] at H
   obtain ⟨rfl,rfl,rfl,rfl,rfl,rfl,rfl⟩:=H
   obtain ⟨ASz6_0,cSz6_0,ASz6_1,cSz6_1,ASz6_8,cSz6_8,HGz6,hgz6,HSz6_0,HSz6_1,HSz6_8⟩:=HI0.out
   have hcz6_0:=cellS72_0 HGz6
   have hcz6_1:=cellS72_1 HGz6
   have hcz6_2:=cellS72_2 HGz6
   have hcz6_3:=cellS72_3 HGz6
   have hcz6_4:=cellS72_4 HGz6
   have hcz6_5:=cellS72_5 HGz6
   have hcz6_6:=cellS72_6 HGz6
   have hcz6_7:=cellS72_7 HGz6
   have hcz6_8:=cellS72_8 HGz6
   have hfz6_2:=kF HGz6 2
   have hfz6_3:=kF HGz6 3
   have hfz6_4:=kF HGz6 4
   have hfz6_5:=kF HGz6 5
   have hfz6_6:=kF HGz6 6
   have hfz6_7:=kF HGz6 7
   clear HGz6 hgz6
   go_enter Try.func48,Try.ntmps48
   go_wp2
   repeat (go_quiet (fail);try go_wp2)
   go_ret
   exact ⟨by first|rfl|(simp [errW_none,errW_some] <;> rfl)|(simp [*,errW_none,errW_some] <;> rfl),by repeat (first|(with_reducible first|exact HI0.out|apply IsS72.alloc|apply IsS72.drewN|apply IsS72.drew|apply IsS72.set_2|apply IsS72.set_3|apply IsS72.set_4|apply IsS72.set_5|apply IsS72.set_6|apply IsS72.set_7)|exact HI0.out),by repeat (first|(with_reducible first|exact HB.out|apply bA|apply bN|apply bD|refine bS ?_ (IsS72.ge HI0.out))|exact HB.out),by repeat (first|(with_reducible first|exact HK.out|apply KeepBut.set_|apply keep_drewN|apply keep_drew|apply keep_alloc)|exact HK.out)⟩
  ·rw [if_neg c5] at H
   have c5b0 : decide ((wrap64 (s0_6 + a1)) ≤ s0_3) = false:=decide_eq_false c5
   clear c5
   simp only [Option.some.injEq,Prod.mk.injEq] at H
   obtain ⟨rfl,rfl,rfl,rfl,rfl,rfl,rfl⟩:=H
   obtain ⟨ASz7_0,cSz7_0,ASz7_1,cSz7_1,ASz7_8,cSz7_8,HGz7,hgz7,HSz7_0,HSz7_1,HSz7_8⟩:=HI0.out
   have hcz7_0:=cellS72_0 HGz7
   have hcz7_1:=cellS72_1 HGz7
   have hcz7_2:=cellS72_2 HGz7
   have hcz7_3:=cellS72_3 HGz7
   have hcz7_4:=cellS72_4 HGz7
   have hcz7_5:=cellS72_5 HGz7
   have hcz7_6:=cellS72_6 HGz7
   have hcz7_7:=cellS72_7 HGz7
   have hcz7_8:=cellS72_8 HGz7
   have hfz7_2:=kF HGz7 2
   have hfz7_3:=kF HGz7 3
   have hfz7_4:=kF HGz7 4
   have hfz7_5:=kF HGz7 5
   have hfz7_6:=kF HGz7 6
   have hfz7_7:=kF HGz7 7
   clear HGz7 hgz7
   go_enter Try.func48,Try.ntmps48
   go_wp2
   repeat (go_quiet (fail);try go_wp2)
   go_ret
   exact ⟨by first|rfl|(simp [errW_none,errW_some] <;> rfl)|(simp [*,errW_none,errW_some] <;> rfl),by repeat (first|(with_reducible first|exact HI0.out|apply IsS72.alloc|apply IsS72.drewN|apply IsS72.drew|apply IsS72.set_2|apply IsS72.set_3|apply IsS72.set_4|apply IsS72.set_5|apply IsS72.set_6|apply IsS72.set_7)|exact HI0.out),by repeat (first|(with_reducible first|exact HB.out|apply bA|apply bN|apply bD|refine bS ?_ (IsS72.ge HI0.out))|exact HB.out),by repeat (first|(with_reducible first|exact HK.out|apply KeepBut.set_|apply keep_drewN|apply keep_drew|apply keep_alloc)|exact HK.out)⟩
 ·rw [if_neg c4] at H
  have c4b0 : (a2 == 0) = false:=beq_eq_false_iff_ne.mpr c4
  have c4b1 : (a2 != 0) = true:=bne_iff_ne.mpr c4
  simp only [Option.some.injEq,Prod.mk.injEq] at H
  obtain ⟨rfl,rfl,rfl,rfl,rfl,rfl,rfl⟩:=H
  obtain ⟨ASz8_0,cSz8_0,ASz8_1,cSz8_1,ASz8_8,cSz8_8,HGz8,hgz8,HSz8_0,HSz8_1,HSz8_8⟩:=HI0.out
  have hcz8_0:=cellS72_0 HGz8
  have hcz8_1:=cellS72_1 HGz8
  have hcz8_2:=cellS72_2 HGz8
  have hcz8_3:=cellS72_3 HGz8
  have hcz8_4:=cellS72_4 HGz8
  have hcz8_5:=cellS72_5 HGz8
  have hcz8_6:=cellS72_6 HGz8
  have hcz8_7:=cellS72_7 HGz8
  have hcz8_8:=cellS72_8 HGz8
  have hfz8_2:=kF HGz8 2
  have hfz8_3:=kF HGz8 3
  have hfz8_4:=kF HGz8 4
  have hfz8_5:=kF HGz8 5
  have hfz8_6:=kF HGz8 6
  have hfz8_7:=kF HGz8 7
  clear HGz8 hgz8
  go_enter Try.func48,Try.ntmps48
  go_wp2
  repeat (go_quiet (fail);try go_wp2)
  go_ret
  exact ⟨by first|rfl|(simp [errW_none,errW_some] <;> rfl)|(simp [*,errW_none,errW_some] <;> rfl),by repeat (first|(with_reducible first|exact HI0.out|apply IsS72.alloc|apply IsS72.drewN|apply IsS72.drew|apply IsS72.set_2|apply IsS72.set_3|apply IsS72.set_4|apply IsS72.set_5|apply IsS72.set_6|apply IsS72.set_7)|exact HI0.out),by repeat (first|(with_reducible first|exact HB.out|apply bA|apply bN|apply bD|refine bS ?_ (IsS72.ge HI0.out))|exact HB.out),by repeat (first|(with_reducible first|exact HK.out|apply KeepBut.set_|apply keep_drewN|apply keep_drew|apply keep_alloc)|exact HK.out)⟩

/-! ### spec_l4G_at: function 50 -/
def spec_l4G_at.f (s0_0 : List (S39)) (s0_1 : List (S45)) (s0_2 : Int) (s0_3 : Int) (s0_4 : Int) (s0_5 : Int) (s0_6 : Int) (s0_7 : Int) (s0_8 : List Int) (a1 : Int) (a2 : Int) : Option (Int × Int × Int × Int × Int × Int × Int):=some (wrap64 ((wrap64 (a1 * 61)) + a2),s0_2,s0_3,s0_4,s0_5,s0_6,s0_7)
set_option maxHeartbeats 8000000 in
set_option maxRecDepth 100000 in
theorem spec_l4G_at.calls (g : Nat) (s0_0 : List (S39)) (s0_1 : List (S45)) (s0_2 : Int) (s0_3 : Int) (s0_4 : Int) (s0_5 : Int) (s0_6 : Int) (s0_7 : Int) (s0_8 : List Int) (a1 : Int) (a2 : Int) (r1 : Int) (r2 : Int) (r3 : Int) (r4 : Int) (r5 : Int) (r6 : Int) (r7 : Int) (w0 w : World) (hI : IsS72 w0 w g s0_0 s0_1 s0_2 s0_3 s0_4 s0_5 s0_6 s0_7 s0_8) (hB : Below w0.heap.size w0 w) (h : spec_l4G_at.f s0_0 s0_1 s0_2 s0_3 s0_4 s0_5 s0_6 s0_7 s0_8 a1 a2 = some (r1,r2,r3,r4,r5,r6,r7)) :
  Calls Try.prog 50 #[.pointer (some ⟨g,0,none⟩),.int .i64 a1,.int .i64 a2] w fun e w' => e = .returned (.int .i64 r1)∧IsS72 w0 w' g s0_0 s0_1 r2 r3 r4 r5 r6 r7 s0_8∧Below w0.heap.size w0 w'∧KeepBut w w' g none:=by
 have HI0:=Am hI
 have HK:=Am (KeepBut.refl w g none)
 have HL:=Am hB.size
 clear hI
 have HW0:=Am hB.size
 have HB:=Am hB
 clear hB
 have H : (some (wrap64 ((wrap64 (a1 * 61)) + a2),s0_2,s0_3,s0_4,s0_5,s0_6,s0_7)) = some (r1,r2,r3,r4,r5,r6,r7):=h
 clear h
 simp only [Option.some.injEq,Prod.mk.injEq] at H
 obtain ⟨rfl,rfl,rfl,rfl,rfl,rfl,rfl⟩:=H
 go_enter Try.func50,Try.ntmps50
 go_wp2
 go_ret
 exact ⟨by first|rfl|(simp [errW_none,errW_some] <;> rfl)|(simp [*,errW_none,errW_some] <;> rfl),by repeat (first|(with_reducible first|exact HI0.out|apply IsS72.alloc|apply IsS72.drewN|apply IsS72.drew|apply IsS72.set_2|apply IsS72.set_3|apply IsS72.set_4|apply IsS72.set_5|apply IsS72.set_6|apply IsS72.set_7)|exact HI0.out),by repeat (first|(with_reducible first|exact HB.out|apply bA|apply bN|apply bD|refine bS ?_ (IsS72.ge HI0.out))|exact HB.out),by repeat (first|(with_reducible first|exact HK.out|apply KeepBut.set_|apply keep_drewN|apply keep_drew|apply keep_alloc)|exact HK.out)⟩

-- NOT PRINTED: function 49 (spec_l4G_fill)

end Go.Proofs.Ytanjbdgmnecacaa.PE
