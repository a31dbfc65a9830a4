-- Written by a program of this session (wip/print/myprint.py) over the kit's print, with contracts of its own; not a text of print.sh's.
import Derived.Test.YtgakkndbcilclaaPCx0
import Derived.Test.YtgakkndbcilclaaPCx3
import Derived.Test.YtgakkndbcilclaaPCx19
import Derived.Test.YtgakkndbcilclaaPCx20
namespace Go.Proofs.Ytgakkndbcilclaa.PC
open Go.RowKit Go.Proofs.YtgakkndbcilclaaW.PrintWords Go.Proofs.YtgakkndbcilclaaW.PrintLast Go.Proofs.YtgakkndbcilclaaW.PrintMore
attribute [local go_sem] max2_int min2_int max_two min_two   -- for this text's walks alone
set_option linter.unusedVariables false
set_option linter.unusedSimpArgs false

/-! ### laws_heldProfile: function 91 -/
def laws_heldProfile.f (k : Nat) (l0_0 : List (S71)) (l0_1 : List (S75)) (a0_2 : Int) (a0_3 : Int) (a0_4 : Int) (a1 : Int) : Option (Int):=(laws_heldPieceS.f k l0_0 a1).bind fun t291 => (if t291 < 0 then (some (-1)) else ((laws_heldZoneS.f k l0_1 t291).bind fun t292 => (if t292 < 0 then (some (-1)) else (some t292))))
theorem laws_heldProfile.mono : ∀ a0 a1 a2 a3 a4 a5 k,LeO (laws_heldProfile.f k a0 a1 a2 a3 a4 a5) (laws_heldProfile.f (k + 1) a0 a1 a2 a3 a4 a5):=by
 intro a0 a1 a2 a3 a4 a5 k
 unfold laws_heldProfile.f
 repeat' first
   | (with_reducible exact laws_heldPieceS.mono _ _ _)
   | (with_reducible exact laws_heldZoneS.mono _ _ _)
   | (with_reducible exact LeO.refl _)
   | (with_reducible exact LeO.none _)
   | (with_reducible refine LeO.ite ?_ ?_)
   | (with_reducible refine LeO.bind ?_ (fun _ => ?_))
   | exact laws_heldPieceS.mono _ _ _
   | exact laws_heldZoneS.mono _ _ _
   | exact LeO.none _
   | refine LeO.ite ?_ ?_
   | refine LeO.bind ?_ (fun _ => ?_)
set_option maxHeartbeats 8000000 in
set_option maxRecDepth 100000 in
theorem laws_heldProfile.calls (k : Nat) (A0_0 : Option Addr) (c0_0 : Nat) (l0_0 : List (S71)) (A0_1 : Option Addr) (c0_1 : Nat) (l0_1 : List (S75)) (a0_2 : Int) (a0_3 : Int) (a0_4 : Int) (a1 : Int) (r : Int) (w : World) (hr0_0 : Kd.C k71 w A0_0 l0_0.length l0_0) (hc0_0 : l0_0.length ≤ c0_0) (hr0_1 : Kd.C k75 w A0_1 l0_1.length l0_1) (hc0_1 : l0_1.length ≤ c0_1) (h : laws_heldProfile.f k l0_0 l0_1 a0_2 a0_3 a0_4 a1 = some r) :
  Calls Try.prog 91 #[.agg #[.slice A0_0 l0_0.length c0_0,.slice A0_1 l0_1.length c0_1,.int .i64 a0_2,.int .i64 a0_3,.int .i64 a0_4],.int .i64 a1] w fun e w' => e = .returned (.int .i64 r)∧Below w.heap.size w w':=by
 have hu31:=Try.underlying31
 have HR0_0:=Am hr0_0
 have HC0_0:=Am hc0_0
 clear hr0_0 hc0_0
 have HR0_1:=Am hr0_1
 have HC0_1:=Am hc0_1
 clear hr0_1 hc0_1
 have HB:=Am (Below.refl w.heap.size w)
 have H : ((laws_heldPieceS.f k l0_0 a1).bind fun t291 => (if t291 < 0 then (some (-1)) else ((laws_heldZoneS.f k l0_1 t291).bind fun t292 => (if t292 < 0 then (some (-1)) else (some t292))))) = some r:=h
 clear h
 replace H:=Option.bind_eq_some_iff.mp H
 obtain ⟨t291,A30,H⟩:=H
 replace H : (if t291 < 0 then (some (-1)) else ((laws_heldZoneS.f k l0_1 t291).bind fun t292 => (if t292 < 0 then (some (-1)) else (some t292)))) = some r:=H
 have A3:=Am A30
 clear A30
 by_cases c4 : t291 < 0
 ·rw [if_pos c4] at H
  have c4b0 : decide (t291 < 0) = true:=decide_eq_true c4
  clear c4
  obtain rfl:=Option.some.inj H
  go_enter Try.func91,Try.ntmps91
  go_wp2_with (first|((with_reducible refine gate_dst (N:=2) rfl ?_);refine box_event ?hg (N:=2) ?hd (cs:=#[.slice A0_0 l0_0.length c0_0,.slice A0_1 l0_1.length c0_1,.int .i64 a0_2,.int .i64 a0_3,.int .i64 a0_4]) (t:=31) ?hr ?_;(case hd => rfl);(case hg => rfl);(case hr => first|(go_simp;done)|(go_simp;rfl));intro gb290 hg w5 hbox hb;have n0_:=Am (below_step (by repeat (first|(with_reducible first|exact HB.out|apply bA|apply bN|apply bD)|exact HB.out)) hb);have n1_:=Am (hbox);have n2_:=Am ((by rw [hg];exact (below_size (by repeat (first|(with_reducible first|exact HB.out|apply bA|apply bN|apply bD)|exact HB.out))) : w.heap.size ≤ gb290));have n3_:=Am ((by rw [hg];exact (below_size (by repeat (first|(with_reducible first|exact HB.out|apply bA|apply bN|apply bD)|exact HB.out))) : w.heap.size ≤ gb290));clear HB;have HB:=n0_;have BK290:=n1_;have GW290:=n2_;have GE290:=n3_;clear n0_ n1_ n2_ n3_;clear hb hbox hg;have hcz6_0 : w5.cell? ⟨gb290,0,none⟩ = some (.slice A0_0 l0_0.length c0_0):=(kC BK290.out 0).trans rfl;have hcz6_1 : w5.cell? ⟨gb290,1,none⟩ = some (.slice A0_1 l0_1.length c0_1):=(kC BK290.out 1).trans rfl;have hcz6_2 : w5.cell? ⟨gb290,2,none⟩ = some (.int .i64 a0_2):=(kC BK290.out 2).trans rfl;have hcz6_3 : w5.cell? ⟨gb290,3,none⟩ = some (.int .i64 a0_3):=(kC BK290.out 3).trans rfl;have hcz6_4 : w5.cell? ⟨gb290,4,none⟩ = some (.int .i64 a0_4):=(kC BK290.out 4).trans rfl;have hfz6_0:=kF BK290.out 0;have hfz6_1:=kF BK290.out 1;have hfz6_2:=kF BK290.out 2;have hfz6_3:=kF BK290.out 3;have hfz6_4:=kF BK290.out 4)|((with_reducible refine gate_callee (f:=103) rfl ?_);refine goesL_ (some 8) rfl rfl Try.func103 (by kernel_rfl) rfl #[.slice A0_0 l0_0.length c0_0,.int .i64 a1] rfl (by (try simp only [List.map_toArray,List.map_cons,List.map_nil]);first|done|rfl|(simp only [List.length_drop,List.length_take];rfl)) ?_;(with_reducible refine (laws_heldPieceS.calls k _ _ l0_0 a1 t291 _ ?side1 ?side2 A3.out).mono ?_);(case side1 => repeat (first|exact (Kd.C_below HR0_0.out HB.out)|(with_reducible refine Kd.C_alloc ?_ _)|(with_reducible refine Kd.C_drewN ?_ _)|(with_reducible refine Kd.C_drew ?_)));(case side2 => exact HC0_0.out);rintro e w' ⟨rfl,⟨nd,rfl⟩⟩;refine ⟨_,rfl,?_⟩))
  go_ret
  exact ⟨by first|rfl|(simp [errW_none,errW_some] <;> rfl)|(simp [*,errW_none,errW_some] <;> rfl),by repeat (first|(with_reducible first|exact HB.out|apply bA|apply bN|apply bD|refine bS ?_ GE290.out)|exact HB.out)⟩
 ·rw [if_neg c4] at H
  have c4b0 : decide (t291 < 0) = false:=decide_eq_false c4
  clear c4
  replace H:=Option.bind_eq_some_iff.mp H
  obtain ⟨t292,A70,H⟩:=H
  replace H : (if t292 < 0 then (some (-1)) else (some t292)) = some r:=H
  have A7:=Am A70
  clear A70
  by_cases c8 : t292 < 0
  ·rw [if_pos c8] at H
   have c8b0 : decide (t292 < 0) = true:=decide_eq_true c8
   clear c8
   obtain rfl:=Option.some.inj H
   go_enter Try.func91,Try.ntmps91
   go_wp2_with (first|((with_reducible refine gate_dst (N:=2) rfl ?_);refine box_event ?hg (N:=2) ?hd (cs:=#[.slice A0_0 l0_0.length c0_0,.slice A0_1 l0_1.length c0_1,.int .i64 a0_2,.int .i64 a0_3,.int .i64 a0_4]) (t:=31) ?hr ?_;(case hd => rfl);(case hg => rfl);(case hr => first|(go_simp;done)|(go_simp;rfl));intro gb290 hg w9 hbox hb;have n0_:=Am (below_step (by repeat (first|(with_reducible first|exact HB.out|apply bA|apply bN|apply bD)|exact HB.out)) hb);have n1_:=Am (hbox);have n2_:=Am ((by rw [hg];exact (below_size (by repeat (first|(with_reducible first|exact HB.out|apply bA|apply bN|apply bD)|exact HB.out))) : w.heap.size ≤ gb290));have n3_:=Am ((by rw [hg];exact (below_size (by repeat (first|(with_reducible first|exact HB.out|apply bA|apply bN|apply bD)|exact HB.out))) : w.heap.size ≤ gb290));clear HB;have HB:=n0_;have BK290:=n1_;have GW290:=n2_;have GE290:=n3_;clear n0_ n1_ n2_ n3_;clear hb hbox hg;have hcz10_0 : w9.cell? ⟨gb290,0,none⟩ = some (.slice A0_0 l0_0.length c0_0):=(kC BK290.out 0).trans rfl;have hcz10_1 : w9.cell? ⟨gb290,1,none⟩ = some (.slice A0_1 l0_1.length c0_1):=(kC BK290.out 1).trans rfl;have hcz10_2 : w9.cell? ⟨gb290,2,none⟩ = some (.int .i64 a0_2):=(kC BK290.out 2).trans rfl;have hcz10_3 : w9.cell? ⟨gb290,3,none⟩ = some (.int .i64 a0_3):=(kC BK290.out 3).trans rfl;have hcz10_4 : w9.cell? ⟨gb290,4,none⟩ = some (.int .i64 a0_4):=(kC BK290.out 4).trans rfl;have hfz10_0:=kF BK290.out 0;have hfz10_1:=kF BK290.out 1;have hfz10_2:=kF BK290.out 2;have hfz10_3:=kF BK290.out 3;have hfz10_4:=kF BK290.out 4)|((with_reducible refine gate_callee (f:=103) rfl ?_);refine goesL_ (some 8) rfl rfl Try.func103 (by kernel_rfl) rfl #[.slice A0_0 l0_0.length c0_0,.int .i64 a1] rfl (by (try simp only [List.map_toArray,List.map_cons,List.map_nil]);first|done|rfl|(simp only [List.length_drop,List.length_take];rfl)) ?_;(with_reducible refine (laws_heldPieceS.calls k _ _ l0_0 a1 t291 _ ?side1 ?side2 A3.out).mono ?_);(case side1 => repeat (first|exact (Kd.C_below HR0_0.out HB.out)|(with_reducible refine Kd.C_alloc ?_ _)|(with_reducible refine Kd.C_drewN ?_ _)|(with_reducible refine Kd.C_drew ?_)));(case side2 => exact HC0_0.out);rintro e w' ⟨rfl,⟨nd,rfl⟩⟩;refine ⟨_,rfl,?_⟩)|((with_reducible refine gate_callee (f:=104) rfl ?_);refine goesL_ (some 14) rfl rfl Try.func104 (by kernel_rfl) rfl #[.slice A0_1 l0_1.length c0_1,.int .i64 t291] rfl (by (try simp only [List.map_toArray,List.map_cons,List.map_nil]);first|done|rfl|(simp only [List.length_drop,List.length_take];rfl)) ?_;(with_reducible refine (laws_heldZoneS.calls k _ _ l0_1 t291 t292 _ ?side1 ?side2 A7.out).mono ?_);(case side1 => repeat (first|exact (Kd.C_below HR0_1.out (by repeat (first|(with_reducible first|exact HB.out|apply bA|apply bN|apply bD|refine bS ?_ GE290.out)|exact HB.out)))|(with_reducible refine Kd.C_alloc ?_ _)|(with_reducible refine Kd.C_drewN ?_ _)|(with_reducible refine Kd.C_drew ?_)));(case side2 => exact HC0_1.out);rintro e w' ⟨rfl,⟨nd,rfl⟩⟩;refine ⟨_,rfl,?_⟩))
   go_ret
   exact ⟨by first|rfl|(simp [errW_none,errW_some] <;> rfl)|(simp [*,errW_none,errW_some] <;> rfl),by repeat (first|(with_reducible first|exact HB.out|apply bA|apply bN|apply bD|refine bS ?_ GE290.out)|exact HB.out)⟩
  ·rw [if_neg c8] at H
   have c8b0 : decide (t292 < 0) = false:=decide_eq_false c8
   clear c8
   obtain rfl:=Option.some.inj H
   go_enter Try.func91,Try.ntmps91
   go_wp2_with (first|((with_reducible refine gate_dst (N:=2) rfl ?_);refine box_event ?hg (N:=2) ?hd (cs:=#[.slice A0_0 l0_0.length c0_0,.slice A0_1 l0_1.length c0_1,.int .i64 a0_2,.int .i64 a0_3,.int .i64 a0_4]) (t:=31) ?hr ?_;(case hd => rfl);(case hg => rfl);(case hr => first|(go_simp;done)|(go_simp;rfl));intro gb290 hg w11 hbox hb;have n0_:=Am (below_step (by repeat (first|(with_reducible first|exact HB.out|apply bA|apply bN|apply bD)|exact HB.out)) hb);have n1_:=Am (hbox);have n2_:=Am ((by rw [hg];exact (below_size (by repeat (first|(with_reducible first|exact HB.out|apply bA|apply bN|apply bD)|exact HB.out))) : w.heap.size ≤ gb290));have n3_:=Am ((by rw [hg];exact (below_size (by repeat (first|(with_reducible first|exact HB.out|apply bA|apply bN|apply bD)|exact HB.out))) : w.heap.size ≤ gb290));clear HB;have HB:=n0_;have BK290:=n1_;have GW290:=n2_;have GE290:=n3_;clear n0_ n1_ n2_ n3_;clear hb hbox hg;have hcz12_0 : w11.cell? ⟨gb290,0,none⟩ = some (.slice A0_0 l0_0.length c0_0):=(kC BK290.out 0).trans rfl;have hcz12_1 : w11.cell? ⟨gb290,1,none⟩ = some (.slice A0_1 l0_1.length c0_1):=(kC BK290.out 1).trans rfl;have hcz12_2 : w11.cell? ⟨gb290,2,none⟩ = some (.int .i64 a0_2):=(kC BK290.out 2).trans rfl;have hcz12_3 : w11.cell? ⟨gb290,3,none⟩ = some (.int .i64 a0_3):=(kC BK290.out 3).trans rfl;have hcz12_4 : w11.cell? ⟨gb290,4,none⟩ = some (.int .i64 a0_4):=(kC BK290.out 4).trans rfl;have hfz12_0:=kF BK290.out 0;have hfz12_1:=kF BK290.out 1;have hfz12_2:=kF BK290.out 2;have hfz12_3:=kF BK290.out 3;have hfz12_4:=kF BK290.out 4)|((with_reducible refine gate_callee (f:=103) rfl ?_);refine goesL_ (some 8) rfl rfl Try.func103 (by kernel_rfl) rfl #[.slice A0_0 l0_0.length c0_0,.int .i64 a1] rfl (by (try simp only [List.map_toArray,List.map_cons,List.map_nil]);first|done|rfl|(simp only [List.length_drop,List.length_take];rfl)) ?_;(with_reducible refine (laws_heldPieceS.calls k _ _ l0_0 a1 t291 _ ?side1 ?side2 A3.out).mono ?_);(case side1 => repeat (first|exact (Kd.C_below HR0_0.out HB.out)|(with_reducible refine Kd.C_alloc ?_ _)|(with_reducible refine Kd.C_drewN ?_ _)|(with_reducible refine Kd.C_drew ?_)));(case side2 => exact HC0_0.out);rintro e w' ⟨rfl,⟨nd,rfl⟩⟩;refine ⟨_,rfl,?_⟩)|((with_reducible refine gate_callee (f:=104) rfl ?_);refine goesL_ (some 14) rfl rfl Try.func104 (by kernel_rfl) rfl #[.slice A0_1 l0_1.length c0_1,.int .i64 t291] rfl (by (try simp only [List.map_toArray,List.map_cons,List.map_nil]);first|done|rfl|(simp only [List.length_drop,List.length_take];rfl)) ?_;(with_reducible refine (laws_heldZoneS.calls k _ _ l0_1 t291 t292 _ ?side1 ?side2 A7.out).mono ?_);(case side1 => repeat (first|exact (Kd.C_below HR0_1.out (by repeat (first|(with_reducible first|exact HB.out|apply bA|apply bN|apply bD|refine bS ?_ GE290.out)|exact HB.out)))|(with_reducible refine Kd.C_alloc ?_ _)|(with_reducible refine Kd.C_drewN ?_ _)|(with_reducible refine Kd.C_drew ?_)));(case side2 => exact HC0_1.out);rintro e w' ⟨rfl,⟨nd,rfl⟩⟩;refine ⟨_,rfl,?_⟩))
   go_ret
   exact ⟨by first|rfl|(simp [errW_none,errW_some] <;> rfl)|(simp [*,errW_none,errW_some] <;> rfl),by repeat (first|(with_reducible first|exact HB.out|apply bA|apply bN|apply bD|refine bS ?_ GE290.out)|exact HB.out)⟩

/-! ### laws_heldTold: function 37 -/
def laws_heldTold.f (k : Nat) (a0_0 : Int) (a0_1 : Int) (l0_2 : List (S71)) (l0_3 : List (S75)) (a0_4 : Int) (a0_5 : Int) (a0_6 : Int) (a1 : Int) : Option (Int):=(laws_heldProfile.f k l0_2 l0_3 a0_4 a0_5 a0_6 a1).bind fun t294 => (if t294 < 0 then (some (-1)) else (some t294))
theorem laws_heldTold.mono : ∀ a0 a1 a2 a3 a4 a5 a6 a7 k,LeO (laws_heldTold.f k a0 a1 a2 a3 a4 a5 a6 a7) (laws_heldTold.f (k + 1) a0 a1 a2 a3 a4 a5 a6 a7):=by
 intro a0 a1 a2 a3 a4 a5 a6 a7 k
 unfold laws_heldTold.f
 repeat' first
   | (with_reducible exact laws_heldProfile.mono _ _ _ _ _ _ _)
   | (with_reducible exact LeO.refl _)
   | (with_reducible exact LeO.none _)
   | (with_reducible refine LeO.ite ?_ ?_)
   | (with_reducible refine LeO.bind ?_ (fun _ => ?_))
   | exact laws_heldProfile.mono _ _ _ _ _ _ _
   | exact LeO.none _
   | refine LeO.ite ?_ ?_
   | refine LeO.bind ?_ (fun _ => ?_)
set_option maxHeartbeats 8000000 in
set_option maxRecDepth 100000 in
theorem laws_heldTold.calls (k : Nat) (a0_0 : Int) (a0_1 : Int) (A0_2 : Option Addr) (c0_2 : Nat) (l0_2 : List (S71)) (A0_3 : Option Addr) (c0_3 : Nat) (l0_3 : List (S75)) (a0_4 : Int) (a0_5 : Int) (a0_6 : Int) (a1 : Int) (r : Int) (w : World) (hr0_2 : Kd.C k71 w A0_2 l0_2.length l0_2) (hc0_2 : l0_2.length ≤ c0_2) (hr0_3 : Kd.C k75 w A0_3 l0_3.length l0_3) (hc0_3 : l0_3.length ≤ c0_3) (h : laws_heldTold.f k a0_0 a0_1 l0_2 l0_3 a0_4 a0_5 a0_6 a1 = some r) :
  Calls Try.prog 37 #[.agg #[.int .i64 a0_0,.int .i64 a0_1,.slice A0_2 l0_2.length c0_2,.slice A0_3 l0_3.length c0_3,.int .i64 a0_4,.int .i64 a0_5,.int .i64 a0_6],.int .i64 a1] w fun e w' => e = .returned (.int .i64 r)∧Below w.heap.size w w':=by
 have hu46:=Try.underlying46
 have hu31:=Try.underlying31
 have HR0_2:=Am hr0_2
 have HC0_2:=Am hc0_2
 clear hr0_2 hc0_2
 have HR0_3:=Am hr0_3
 have HC0_3:=Am hc0_3
 clear hr0_3 hc0_3
 have HB:=Am (Below.refl w.heap.size w)
 have H : ((laws_heldProfile.f k l0_2 l0_3 a0_4 a0_5 a0_6 a1).bind fun t294 => (if t294 < 0 then (some (-1)) else (some t294))) = some r:=h
 clear h
 replace H:=Option.bind_eq_some_iff.mp H
 obtain ⟨t294,A30,H⟩:=H
 replace H : (if t294 < 0 then (some (-1)) else (some t294)) = some r:=H
 have A3:=Am A30
 clear A30
 by_cases c4 : t294 < 0
 ·rw [if_pos c4] at H
  have c4b0 : decide (t294 < 0) = true:=decide_eq_true c4
  clear c4
  obtain rfl:=Option.some.inj H
  go_enter Try.func37,Try.ntmps37
  go_wp2_with (first|((with_reducible refine gate_dst (N:=2) rfl ?_);refine box_event ?hg (N:=2) ?hd (cs:=#[.int .i64 a0_0,.int .i64 a0_1,.slice A0_2 l0_2.length c0_2,.slice A0_3 l0_3.length c0_3,.int .i64 a0_4,.int .i64 a0_5,.int .i64 a0_6]) (t:=46) ?hr ?_;(case hd => rfl);(case hg => rfl);(case hr => first|(go_simp;done)|(go_simp;rfl));intro gb293 hg w5 hbox hb;have n0_:=Am (below_step (by repeat (first|(with_reducible first|exact HB.out|apply bA|apply bN|apply bD)|exact HB.out)) hb);have n1_:=Am (hbox);have n2_:=Am ((by rw [hg];exact (below_size (by repeat (first|(with_reducible first|exact HB.out|apply bA|apply bN|apply bD)|exact HB.out))) : w.heap.size ≤ gb293));have n3_:=Am ((by rw [hg];exact (below_size (by repeat (first|(with_reducible first|exact HB.out|apply bA|apply bN|apply bD)|exact HB.out))) : w.heap.size ≤ gb293));clear HB;have HB:=n0_;have BK293:=n1_;have GW293:=n2_;have GE293:=n3_;clear n0_ n1_ n2_ n3_;clear hb hbox hg;have hcz6_0 : w5.cell? ⟨gb293,0,none⟩ = some (.int .i64 a0_0):=(kC BK293.out 0).trans rfl;have hcz6_1 : w5.cell? ⟨gb293,1,none⟩ = some (.int .i64 a0_1):=(kC BK293.out 1).trans rfl;have hcz6_2 : w5.cell? ⟨gb293,2,none⟩ = some (.slice A0_2 l0_2.length c0_2):=(kC BK293.out 2).trans rfl;have hcz6_3 : w5.cell? ⟨gb293,3,none⟩ = some (.slice A0_3 l0_3.length c0_3):=(kC BK293.out 3).trans rfl;have hcz6_4 : w5.cell? ⟨gb293,4,none⟩ = some (.int .i64 a0_4):=(kC BK293.out 4).trans rfl;have hcz6_5 : w5.cell? ⟨gb293,5,none⟩ = some (.int .i64 a0_5):=(kC BK293.out 5).trans rfl;have hcz6_6 : w5.cell? ⟨gb293,6,none⟩ = some (.int .i64 a0_6):=(kC BK293.out 6).trans rfl;have hfz6_0:=kF BK293.out 0;have hfz6_1:=kF BK293.out 1;have hfz6_2:=kF BK293.out 2;have hfz6_3:=kF BK293.out 3;have hfz6_4:=kF BK293.out 4;have hfz6_5:=kF BK293.out 5;have hfz6_6:=kF BK293.out 6)|((with_reducible refine gate_callee (f:=91) rfl ?_);refine goesL_ (some 8) rfl rfl Try.func91 (by kernel_rfl) rfl #[.agg #[.slice A0_2 l0_2.length c0_2,.slice A0_3 l0_3.length c0_3,.int .i64 a0_4,.int .i64 a0_5,.int .i64 a0_6],.int .i64 a1] rfl (by (try simp only [List.map_toArray,List.map_cons,List.map_nil]);first|done|rfl|(simp only [List.length_drop,List.length_take];rfl)) ?_;(with_reducible refine (laws_heldProfile.calls k _ _ l0_2 _ _ l0_3 a0_4 a0_5 a0_6 a1 t294 _ ?side1 ?side2 ?side3 ?side4 A3.out).mono ?_);(case side1 => repeat (first|exact (Kd.C_below HR0_2.out HB.out)|(with_reducible refine Kd.C_alloc ?_ _)|(with_reducible refine Kd.C_drewN ?_ _)|(with_reducible refine Kd.C_drew ?_)));(case side2 => exact HC0_2.out);(case side3 => repeat (first|exact (Kd.C_below HR0_3.out HB.out)|(with_reducible refine Kd.C_alloc ?_ _)|(with_reducible refine Kd.C_drewN ?_ _)|(with_reducible refine Kd.C_drew ?_)));(case side4 => exact HC0_3.out);rintro e w7 ⟨rfl,hb⟩;refine ⟨_,rfl,?_⟩;have n0_:=Am (blk_below (g:=gb293) (o:=.cells #[.int .i64 a0_0,.int .i64 a0_1,.slice A0_2 l0_2.length c0_2,.slice A0_3 l0_3.length c0_3,.int .i64 a0_4,.int .i64 a0_5,.int .i64 a0_6] 46 (0,0)) (by (with_reducible repeat (first|refine kN ?_ _|refine kD ?_|refine kA ?_ _));exact BK293.out) hb);have n1_:=Am (below_step (by repeat (first|(with_reducible first|exact HB.out|apply bA|apply bN|apply bD|refine bS ?_ GE293.out)|exact HB.out)) hb);clear BK293;clear HB;have BK293:=n0_;have HB:=n1_;clear n0_ n1_;(try clear hb);(try clear hb2);(try clear hk);(try clear hi)))
  go_ret
  exact ⟨by first|rfl|(simp [errW_none,errW_some] <;> rfl)|(simp [*,errW_none,errW_some] <;> rfl),by repeat (first|(with_reducible first|exact HB.out|apply bA|apply bN|apply bD|refine bS ?_ GE293.out)|exact HB.out)⟩
 ·rw [if_neg c4] at H
  have c4b0 : decide (t294 < 0) = false:=decide_eq_false c4
  clear c4
  obtain rfl:=Option.some.inj H
  go_enter Try.func37,Try.ntmps37
  go_wp2_with (first|((with_reducible refine gate_dst (N:=2) rfl ?_);refine box_event ?hg (N:=2) ?hd (cs:=#[.int .i64 a0_0,.int .i64 a0_1,.slice A0_2 l0_2.length c0_2,.slice A0_3 l0_3.length c0_3,.int .i64 a0_4,.int .i64 a0_5,.int .i64 a0_6]) (t:=46) ?hr ?_;(case hd => rfl);(case hg => rfl);(case hr => first|(go_simp;done)|(go_simp;rfl));intro gb293 hg w8 hbox hb;have n0_:=Am (below_step (by repeat (first|(with_reducible first|exact HB.out|apply bA|apply bN|apply bD)|exact HB.out)) hb);have n1_:=Am (hbox);have n2_:=Am ((by rw [hg];exact (below_size (by repeat (first|(with_reducible first|exact HB.out|apply bA|apply bN|apply bD)|exact HB.out))) : w.heap.size ≤ gb293));have n3_:=Am ((by rw [hg];exact (below_size (by repeat (first|(with_reducible first|exact HB.out|apply bA|apply bN|apply bD)|exact HB.out))) : w.heap.size ≤ gb293));clear HB;have HB:=n0_;have BK293:=n1_;have GW293:=n2_;have GE293:=n3_;clear n0_ n1_ n2_ n3_;clear hb hbox hg;have hcz9_0 : w8.cell? ⟨gb293,0,none⟩ = some (.int .i64 a0_0):=(kC BK293.out 0).trans rfl;have hcz9_1 : w8.cell? ⟨gb293,1,none⟩ = some (.int .i64 a0_1):=(kC BK293.out 1).trans rfl;have hcz9_2 : w8.cell? ⟨gb293,2,none⟩ = some (.slice A0_2 l0_2.length c0_2):=(kC BK293.out 2).trans rfl;have hcz9_3 : w8.cell? ⟨gb293,3,none⟩ = some (.slice A0_3 l0_3.length c0_3):=(kC BK293.out 3).trans rfl;have hcz9_4 : w8.cell? ⟨gb293,4,none⟩ = some (.int .i64 a0_4):=(kC BK293.out 4).trans rfl;have hcz9_5 : w8.cell? ⟨gb293,5,none⟩ = some (.int .i64 a0_5):=(kC BK293.out 5).trans rfl;have hcz9_6 : w8.cell? ⟨gb293,6,none⟩ = some (.int .i64 a0_6):=(kC BK293.out 6).trans rfl;have hfz9_0:=kF BK293.out 0;have hfz9_1:=kF BK293.out 1;have hfz9_2:=kF BK293.out 2;have hfz9_3:=kF BK293.out 3;have hfz9_4:=kF BK293.out 4;have hfz9_5:=kF BK293.out 5;have hfz9_6:=kF BK293.out 6)|((with_reducible refine gate_callee (f:=91) rfl ?_);refine goesL_ (some 8) rfl rfl Try.func91 (by kernel_rfl) rfl #[.agg #[.slice A0_2 l0_2.length c0_2,.slice A0_3 l0_3.length c0_3,.int .i64 a0_4,.int .i64 a0_5,.int .i64 a0_6],.int .i64 a1] rfl (by (try simp only [List.map_toArray,List.map_cons,List.map_nil]);first|done|rfl|(simp only [List.length_drop,List.length_take];rfl)) ?_;(with_reducible refine (laws_heldProfile.calls k _ _ l0_2 _ _ l0_3 a0_4 a0_5 a0_6 a1 t294 _ ?side1 ?side2 ?side3 ?side4 A3.out).mono ?_);(case side1 => repeat (first|exact (Kd.C_below HR0_2.out HB.out)|(with_reducible refine Kd.C_alloc ?_ _)|(with_reducible refine Kd.C_drewN ?_ _)|(with_reducible refine Kd.C_drew ?_)));(case side2 => exact HC0_2.out);(case side3 => repeat (first|exact (Kd.C_below HR0_3.out HB.out)|(with_reducible refine Kd.C_alloc ?_ _)|(with_reducible refine Kd.C_drewN ?_ _)|(with_reducible refine Kd.C_drew ?_)));(case side4 => exact HC0_3.out);rintro e w10 ⟨rfl,hb⟩;refine ⟨_,rfl,?_⟩;have n0_:=Am (blk_below (g:=gb293) (o:=.cells #[.int .i64 a0_0,.int .i64 a0_1,.slice A0_2 l0_2.length c0_2,.slice A0_3 l0_3.length c0_3,.int .i64 a0_4,.int .i64 a0_5,.int .i64 a0_6] 46 (0,0)) (by (with_reducible repeat (first|refine kN ?_ _|refine kD ?_|refine kA ?_ _));exact BK293.out) hb);have n1_:=Am (below_step (by repeat (first|(with_reducible first|exact HB.out|apply bA|apply bN|apply bD|refine bS ?_ GE293.out)|exact HB.out)) hb);clear BK293;clear HB;have BK293:=n0_;have HB:=n1_;clear n0_ n1_;(try clear hb);(try clear hb2);(try clear hk);(try clear hi)))
  go_ret
  exact ⟨by first|rfl|(simp [errW_none,errW_some] <;> rfl)|(simp [*,errW_none,errW_some] <;> rfl),by repeat (first|(with_reducible first|exact HB.out|apply bA|apply bN|apply bD|refine bS ?_ GE293.out)|exact HB.out)⟩

end Go.Proofs.Ytgakkndbcilclaa.PC
