-- Written by a program of this session (wip/print/myprint.py) over the kit's print, with contracts of its own; not a text of print.sh's.
import Derived.Test.YtgakkndbcilclaaPAx0
import Derived.Test.YtgakkndbcilclaaPAx1
import Derived.Test.YtgakkndbcilclaaPAx5
import Derived.Test.YtgakkndbcilclaaPAx12
import Derived.Test.YtgakkndbcilclaaPAx39
import Derived.Test.YtgakkndbcilclaaPAx40
import Derived.Test.YtgakkndbcilclaaPAx42
import Derived.Test.YtgakkndbcilclaaPAx44
import Derived.Test.YtgakkndbcilclaaPAx45
import Derived.Test.YtgakkndbcilclaaPAx46
import Derived.Test.YtgakkndbcilclaaMyWords
namespace Go.Proofs.Ytgakkndbcilclaa.PA
open Go.RowKit Go.Proofs.YtgakkndbcilclaaW.PrintWords Go.Proofs.YtgakkndbcilclaaW.PrintLast Go.Proofs.YtgakkndbcilclaaW.PrintMore
attribute [local go_sem] max2_int min2_int max_two min_two   -- for this text's walks alone
set_option linter.unusedVariables false
set_option linter.unusedSimpArgs false

/-! ### laws_FnExactCurve: function 11 -/
def laws_FnExactCurve.j0 : Nat → Int → List (S98) → List (S98) → Bool → List (S107) → List (S109) → Int → Int → Int → Option (Bool)
 | 0,_,_,_,_,_,_,_,_,_ => none
 | k + 1,x1,x6,x8,x46,x481000,x481001,x481002,x481003,x481004 => if x46 = true then (some false) else ((laws_markPointS.f k x8 1).bind fun bt522 => ((laws_heldPointS.f k bt522.2 1).bind fun t524 => (if t524 < 0 then (some false) else (if t524 = bt522.1 then ((laws_toProfile.f k x481000 x481001 x481002 x481003 x481004).bind fun bt525 => ((impl_Curve.f k bt525.1 bt525.2.1 bt525.2.2.1 bt525.2.2.2.1 bt525.2.2.2.2 x1).bind fun t534 => ((laws_eqPointS.f k t534 x6).bind fun t537 => (if t537 = true then ((laws_heldPointS.f k bt522.2 1).bind fun t538 => (if t538 < 0 then (some false) else (if t538 = bt522.1 then (some true) else (some false)))) else (some false))))) else (some false)))))
def laws_FnExactCurve.f (k : Nat) (l0_0 : List (S107)) (l0_1 : List (S109)) (a0_2 : Int) (a0_3 : Int) (a0_4 : Int) (a1 : Int) : Option (Bool):=(laws_szProfile.f l0_0 l0_1 a0_2 a0_3 a0_4 1048576).bind fun t481 => (if t481 < 0 then (some true) else ((laws_toProfile.f k l0_0 l0_1 a0_2 a0_3 a0_4).bind fun bt482 => ((spec_Curve.f k bt482.1 bt482.2.1 bt482.2.2.1 bt482.2.2.2.1 bt482.2.2.2.2 a1).bind fun t491 => ((laws_toProfile.f k l0_0 l0_1 a0_2 a0_3 a0_4).bind fun bt494 => ((impl_Curve.f k bt494.1 bt494.2.1 bt494.2.2.1 bt494.2.2.2.1 bt494.2.2.2.2 a1).bind fun t504 => ((laws_eqPointS.f k t504 t491).bind fun t507 => (if t507 = true then ((laws_toProfile.f k l0_0 l0_1 a0_2 a0_3 a0_4).bind fun bt508 => ((laws_eqProfile.f k bt494.1 bt494.2.1 bt494.2.2.1 bt494.2.2.2.1 bt494.2.2.2.2 bt508.1 bt508.2.1 bt508.2.2.1 bt508.2.2.2.1 bt508.2.2.2.2).bind fun t517 => (if t517 = true then ((laws_markProfile.f k bt494.1 bt494.2.1 bt494.2.2.1 bt494.2.2.2.1 bt494.2.2.2.2 1).bind fun bt518 => (if bt518.1 < 0 then (laws_FnExactCurve.j0 k a1 t491 t504 true l0_0 l0_1 a0_2 a0_3 a0_4) else ((laws_eqPointS.f k t504 t491).bind fun t521 => (laws_FnExactCurve.j0 k a1 t491 t504 (!t521) l0_0 l0_1 a0_2 a0_3 a0_4)))) else (some false)))) else (some false))))))))
theorem laws_FnExactCurve.mono_l : ∀ k,(∀ y0 y1 y2 y3 y4 y5 y6 y7 y8,LeO (laws_FnExactCurve.j0 k y0 y1 y2 y3 y4 y5 y6 y7 y8) (laws_FnExactCurve.j0 (k + 1) y0 y1 y2 y3 y4 y5 y6 y7 y8))
 | 0 => fun _ _ _ _ _ _ _ _ _ r h => by simp [laws_FnExactCurve.j0] at h
 | k + 1 => by
  have ih0:=laws_FnExactCurve.mono_l k
  ·intro y0 y1 y2 y3 y4 y5 y6 y7 y8
   unfold laws_FnExactCurve.j0
   repeat' first
   | (with_reducible exact ih0 _ _ _ _ _ _ _ _ _)
   | (with_reducible exact impl_Curve.mono _ _ _ _ _ _ _)
   | (with_reducible exact laws_eqPointS.mono _ _ _)
   | (with_reducible exact laws_eqProfile.mono _ _ _ _ _ _ _ _ _ _ _)
   | (with_reducible exact laws_heldPointS.mono _ _ _)
   | (with_reducible exact laws_markPointS.mono _ _ _)
   | (with_reducible exact laws_markProfile.mono _ _ _ _ _ _ _)
   | (with_reducible exact laws_toProfile.mono _ _ _ _ _ _)
   | (with_reducible exact spec_Curve.mono _ _ _ _ _ _ _)
   | (with_reducible exact LeO.refl _)
   | (with_reducible exact LeO.none _)
   | (with_reducible refine LeO.ite ?_ ?_)
   | (with_reducible refine LeO.bind ?_ (fun _ => ?_))
   | exact ih0 _ _ _ _ _ _ _ _ _
   | exact impl_Curve.mono _ _ _ _ _ _ _
   | exact laws_eqPointS.mono _ _ _
   | exact laws_eqProfile.mono _ _ _ _ _ _ _ _ _ _ _
   | exact laws_heldPointS.mono _ _ _
   | exact laws_markPointS.mono _ _ _
   | exact laws_markProfile.mono _ _ _ _ _ _ _
   | exact laws_toProfile.mono _ _ _ _ _ _
   | exact spec_Curve.mono _ _ _ _ _ _ _
   | exact LeO.none _
   | refine LeO.ite ?_ ?_
   | refine LeO.bind ?_ (fun _ => ?_)
theorem laws_FnExactCurve.mono : ∀ a0 a1 a2 a3 a4 a5 k,LeO (laws_FnExactCurve.f k a0 a1 a2 a3 a4 a5) (laws_FnExactCurve.f (k + 1) a0 a1 a2 a3 a4 a5):=by
 intro a0 a1 a2 a3 a4 a5 k
 have ih0:=laws_FnExactCurve.mono_l k
 unfold laws_FnExactCurve.f
 repeat' first
   | (with_reducible exact ih0 _ _ _ _ _ _ _ _ _)
   | (with_reducible exact impl_Curve.mono _ _ _ _ _ _ _)
   | (with_reducible exact laws_eqPointS.mono _ _ _)
   | (with_reducible exact laws_eqProfile.mono _ _ _ _ _ _ _ _ _ _ _)
   | (with_reducible exact laws_heldPointS.mono _ _ _)
   | (with_reducible exact laws_markPointS.mono _ _ _)
   | (with_reducible exact laws_markProfile.mono _ _ _ _ _ _ _)
   | (with_reducible exact laws_toProfile.mono _ _ _ _ _ _)
   | (with_reducible exact spec_Curve.mono _ _ _ _ _ _ _)
   | (with_reducible exact LeO.refl _)
   | (with_reducible exact LeO.none _)
   | (with_reducible refine LeO.ite ?_ ?_)
   | (with_reducible refine LeO.bind ?_ (fun _ => ?_))
   | exact ih0 _ _ _ _ _ _ _ _ _
   | exact impl_Curve.mono _ _ _ _ _ _ _
   | exact laws_eqPointS.mono _ _ _
   | exact laws_eqProfile.mono _ _ _ _ _ _ _ _ _ _ _
   | exact laws_heldPointS.mono _ _ _
   | exact laws_markPointS.mono _ _ _
   | exact laws_markProfile.mono _ _ _ _ _ _ _
   | exact laws_toProfile.mono _ _ _ _ _ _
   | exact spec_Curve.mono _ _ _ _ _ _ _
   | exact LeO.none _
   | refine LeO.ite ?_ ?_
   | refine LeO.bind ?_ (fun _ => ?_)
theorem laws_FnExactCurve.j0_no : ∀ (k : Nat) (x1 : Int) (x6 : List (S98)) (x8 : List (S98)) (x481000 : List (S107)) (x481001 : List (S109)) (x481002 : Int) (x481003 : Int) (x481004 : Int),¬ laws_FnExactCurve.j0 k x1 x6 x8 true x481000 x481001 x481002 x481003 x481004 = some true:=by
 intro k
 cases k <;> simp [laws_FnExactCurve.j0]
set_option maxHeartbeats 8000000 in
set_option maxRecDepth 100000 in
theorem laws_FnExactCurve.calls (k : Nat) (A0_0 : Option Addr) (c0_0 : Nat) (l0_0 : List (S107)) (A0_1 : Option Addr) (c0_1 : Nat) (l0_1 : List (S109)) (a0_2 : Int) (a0_3 : Int) (a0_4 : Int) (a1 : Int) (r : Bool) (w : World) (hr0_0 : Kd.C k107 w A0_0 l0_0.length l0_0) (hc0_0 : l0_0.length ≤ c0_0) (hr0_1 : Kd.C k109 w A0_1 l0_1.length l0_1) (hc0_1 : l0_1.length ≤ c0_1) (hrt : As (r = true)) (h : laws_FnExactCurve.f k l0_0 l0_1 a0_2 a0_3 a0_4 a1 = some r) :
  Calls Try.prog 11 #[.agg #[.slice A0_0 l0_0.length c0_0,.slice A0_1 l0_1.length c0_1,.int .i64 a0_2,.int .i64 a0_3,.int .i64 a0_4],.int .i64 a1] w fun e w' => e = .returned (.bool r)∧Below w.heap.size w w':=by
 have hu25:=Try.underlying25
 have hu31:=Try.underlying31
 have HR0_0:=Am hr0_0
 have HC0_0:=Am hc0_0
 clear hr0_0 hc0_0
 have HR0_1:=Am hr0_1
 have HC0_1:=Am hc0_1
 clear hr0_1 hc0_1
 have HB:=Am (Below.refl w.heap.size w)
 have H : ((laws_szProfile.f l0_0 l0_1 a0_2 a0_3 a0_4 1048576).bind fun t481 => (if t481 < 0 then (some true) else ((laws_toProfile.f k l0_0 l0_1 a0_2 a0_3 a0_4).bind fun bt482 => ((spec_Curve.f k bt482.1 bt482.2.1 bt482.2.2.1 bt482.2.2.2.1 bt482.2.2.2.2 a1).bind fun t491 => ((laws_toProfile.f k l0_0 l0_1 a0_2 a0_3 a0_4).bind fun bt494 => ((impl_Curve.f k bt494.1 bt494.2.1 bt494.2.2.1 bt494.2.2.2.1 bt494.2.2.2.2 a1).bind fun t504 => ((laws_eqPointS.f k t504 t491).bind fun t507 => (if t507 = true then ((laws_toProfile.f k l0_0 l0_1 a0_2 a0_3 a0_4).bind fun bt508 => ((laws_eqProfile.f k bt494.1 bt494.2.1 bt494.2.2.1 bt494.2.2.2.1 bt494.2.2.2.2 bt508.1 bt508.2.1 bt508.2.2.1 bt508.2.2.2.1 bt508.2.2.2.2).bind fun t517 => (if t517 = true then ((laws_markProfile.f k bt494.1 bt494.2.1 bt494.2.2.1 bt494.2.2.2.1 bt494.2.2.2.2 1).bind fun bt518 => (if bt518.1 < 0 then (laws_FnExactCurve.j0 k a1 t491 t504 true l0_0 l0_1 a0_2 a0_3 a0_4) else ((laws_eqPointS.f k t504 t491).bind fun t521 => (laws_FnExactCurve.j0 k a1 t491 t504 (!t521) l0_0 l0_1 a0_2 a0_3 a0_4)))) else (some false)))) else (some false))))))))) = some r:=h
 clear h
 replace H:=Option.bind_eq_some_iff.mp H
 obtain ⟨t481,A30,H⟩:=H
 replace H : (if t481 < 0 then (some true) else ((laws_toProfile.f k l0_0 l0_1 a0_2 a0_3 a0_4).bind fun bt482 => ((spec_Curve.f k bt482.1 bt482.2.1 bt482.2.2.1 bt482.2.2.2.1 bt482.2.2.2.2 a1).bind fun t491 => ((laws_toProfile.f k l0_0 l0_1 a0_2 a0_3 a0_4).bind fun bt494 => ((impl_Curve.f k bt494.1 bt494.2.1 bt494.2.2.1 bt494.2.2.2.1 bt494.2.2.2.2 a1).bind fun t504 => ((laws_eqPointS.f k t504 t491).bind fun t507 => (if t507 = true then ((laws_toProfile.f k l0_0 l0_1 a0_2 a0_3 a0_4).bind fun bt508 => ((laws_eqProfile.f k bt494.1 bt494.2.1 bt494.2.2.1 bt494.2.2.2.1 bt494.2.2.2.2 bt508.1 bt508.2.1 bt508.2.2.1 bt508.2.2.2.1 bt508.2.2.2.2).bind fun t517 => (if t517 = true then ((laws_markProfile.f k bt494.1 bt494.2.1 bt494.2.2.1 bt494.2.2.2.1 bt494.2.2.2.2 1).bind fun bt518 => (if bt518.1 < 0 then (laws_FnExactCurve.j0 k a1 t491 t504 true l0_0 l0_1 a0_2 a0_3 a0_4) else ((laws_eqPointS.f k t504 t491).bind fun t521 => (laws_FnExactCurve.j0 k a1 t491 t504 (!t521) l0_0 l0_1 a0_2 a0_3 a0_4)))) else (some false)))) else (some false)))))))) = some r:=H
 have A3:=Am A30
 clear A30
 by_cases c4 : t481 < 0
 ·rw [if_pos c4] at H
  have c4b0 : decide (t481 < 0) = true:=decide_eq_true c4
  clear c4
  obtain rfl:=Option.some.inj H
  go_enter Try.func11,Try.ntmps11
  go_wp2_with (first|((with_reducible refine gate_dst (N:=2) rfl ?_);refine box_event ?hg (N:=2) ?hd (cs:=#[.slice A0_0 l0_0.length c0_0,.slice A0_1 l0_1.length c0_1,.int .i64 a0_2,.int .i64 a0_3,.int .i64 a0_4]) (t:=25) ?hr ?_;(case hd => rfl);(case hg => rfl);(case hr => first|(go_simp;done)|(go_simp;rfl));intro gb480 hg w5 hbox hb;have n0_:=Am (below_step (by repeat (first|(with_reducible first|exact HB.out|apply bA|apply bN|apply bD)|exact HB.out)) hb);have n1_:=Am (hbox);have n2_:=Am ((by rw [hg];exact (below_size (by repeat (first|(with_reducible first|exact HB.out|apply bA|apply bN|apply bD)|exact HB.out))) : w.heap.size ≤ gb480));have n3_:=Am ((by rw [hg];exact (below_size (by repeat (first|(with_reducible first|exact HB.out|apply bA|apply bN|apply bD)|exact HB.out))) : w.heap.size ≤ gb480));clear HB;have HB:=n0_;have BK480:=n1_;have GW480:=n2_;have GE480:=n3_;clear n0_ n1_ n2_ n3_;clear hb hbox hg;have hcz6_0 : w5.cell? ⟨gb480,0,none⟩ = some (.slice A0_0 l0_0.length c0_0):=(kC BK480.out 0).trans rfl;have hcz6_1 : w5.cell? ⟨gb480,1,none⟩ = some (.slice A0_1 l0_1.length c0_1):=(kC BK480.out 1).trans rfl;have hcz6_2 : w5.cell? ⟨gb480,2,none⟩ = some (.int .i64 a0_2):=(kC BK480.out 2).trans rfl;have hcz6_3 : w5.cell? ⟨gb480,3,none⟩ = some (.int .i64 a0_3):=(kC BK480.out 3).trans rfl;have hcz6_4 : w5.cell? ⟨gb480,4,none⟩ = some (.int .i64 a0_4):=(kC BK480.out 4).trans rfl;have hfz6_0:=kF BK480.out 0;have hfz6_1:=kF BK480.out 1;have hfz6_2:=kF BK480.out 2;have hfz6_3:=kF BK480.out 3;have hfz6_4:=kF BK480.out 4)|((with_reducible refine gate_callee (f:=14) rfl ?_);refine goesL_ (some 15) rfl rfl Try.func14 (by kernel_rfl) rfl #[.agg #[.slice A0_0 l0_0.length c0_0,.slice A0_1 l0_1.length c0_1,.int .i64 a0_2,.int .i64 a0_3,.int .i64 a0_4],.int .i64 1048576] rfl (by (try simp only [List.map_toArray,List.map_cons,List.map_nil]);first|done|rfl|(simp only [List.length_drop,List.length_take];rfl)) ?_;(with_reducible refine (laws_szProfile.calls _ _ l0_0 _ _ l0_1 a0_2 a0_3 a0_4 1048576 t481 _ ?side1 ?side2 ?side3 ?side4 A3.out).mono ?_);(case side1 => repeat (first|exact (Kd.C_below HR0_0.out HB.out)|(with_reducible refine Kd.C_alloc ?_ _)|(with_reducible refine Kd.C_drewN ?_ _)|(with_reducible refine Kd.C_drew ?_)));(case side2 => exact HC0_0.out);(case side3 => repeat (first|exact (Kd.C_below HR0_1.out HB.out)|(with_reducible refine Kd.C_alloc ?_ _)|(with_reducible refine Kd.C_drewN ?_ _)|(with_reducible refine Kd.C_drew ?_)));(case side4 => exact HC0_1.out);rintro e w7 ⟨rfl,hb⟩;refine ⟨_,rfl,?_⟩;have n0_:=Am (blk_below (g:=gb480) (o:=.cells #[.slice A0_0 l0_0.length c0_0,.slice A0_1 l0_1.length c0_1,.int .i64 a0_2,.int .i64 a0_3,.int .i64 a0_4] 25 (0,0)) (by (with_reducible repeat (first|refine kN ?_ _|refine kD ?_|refine kA ?_ _));exact BK480.out) hb);have n1_:=Am (below_step (by repeat (first|(with_reducible first|exact HB.out|apply bA|apply bN|apply bD|refine bS ?_ GE480.out)|exact HB.out)) hb);clear BK480;clear HB;have BK480:=n0_;have HB:=n1_;clear n0_ n1_;(try clear hb);(try clear hb2);(try clear hk);(try clear hi)))
  go_ret
  exact ⟨by first|rfl|(simp [errW_none,errW_some] <;> rfl)|(simp [*,errW_none,errW_some] <;> rfl),by repeat (first|(with_reducible first|exact HB.out|apply bA|apply bN|apply bD|refine bS ?_ GE480.out)|exact HB.out)⟩
 ·rw [if_neg c4] at H
  have c4b0 : decide (t481 < 0) = false:=decide_eq_false c4
  clear c4
  replace H:=Option.bind_eq_some_iff.mp H
  obtain ⟨⟨t482,t485,t488,t489,t490⟩,A80,H⟩:=H
  replace H : ((spec_Curve.f k t482 t485 t488 t489 t490 a1).bind fun t491 => ((laws_toProfile.f k l0_0 l0_1 a0_2 a0_3 a0_4).bind fun bt494 => ((impl_Curve.f k bt494.1 bt494.2.1 bt494.2.2.1 bt494.2.2.2.1 bt494.2.2.2.2 a1).bind fun t504 => ((laws_eqPointS.f k t504 t491).bind fun t507 => (if t507 = true then ((laws_toProfile.f k l0_0 l0_1 a0_2 a0_3 a0_4).bind fun bt508 => ((laws_eqProfile.f k bt494.1 bt494.2.1 bt494.2.2.1 bt494.2.2.2.1 bt494.2.2.2.2 bt508.1 bt508.2.1 bt508.2.2.1 bt508.2.2.2.1 bt508.2.2.2.2).bind fun t517 => (if t517 = true then ((laws_markProfile.f k bt494.1 bt494.2.1 bt494.2.2.1 bt494.2.2.2.1 bt494.2.2.2.2 1).bind fun bt518 => (if bt518.1 < 0 then (laws_FnExactCurve.j0 k a1 t491 t504 true l0_0 l0_1 a0_2 a0_3 a0_4) else ((laws_eqPointS.f k t504 t491).bind fun t521 => (laws_FnExactCurve.j0 k a1 t491 t504 (!t521) l0_0 l0_1 a0_2 a0_3 a0_4)))) else (some false)))) else (some false)))))) = some r:=H
  have A8:=Am A80
  clear A80
  replace H:=Option.bind_eq_some_iff.mp H
  obtain ⟨t491,A90,H⟩:=H
  replace H : ((laws_toProfile.f k l0_0 l0_1 a0_2 a0_3 a0_4).bind fun bt494 => ((impl_Curve.f k bt494.1 bt494.2.1 bt494.2.2.1 bt494.2.2.2.1 bt494.2.2.2.2 a1).bind fun t504 => ((laws_eqPointS.f k t504 t491).bind fun t507 => (if t507 = true then ((laws_toProfile.f k l0_0 l0_1 a0_2 a0_3 a0_4).bind fun bt508 => ((laws_eqProfile.f k bt494.1 bt494.2.1 bt494.2.2.1 bt494.2.2.2.1 bt494.2.2.2.2 bt508.1 bt508.2.1 bt508.2.2.1 bt508.2.2.2.1 bt508.2.2.2.2).bind fun t517 => (if t517 = true then ((laws_markProfile.f k bt494.1 bt494.2.1 bt494.2.2.1 bt494.2.2.2.1 bt494.2.2.2.2 1).bind fun bt518 => (if bt518.1 < 0 then (laws_FnExactCurve.j0 k a1 t491 t504 true l0_0 l0_1 a0_2 a0_3 a0_4) else ((laws_eqPointS.f k t504 t491).bind fun t521 => (laws_FnExactCurve.j0 k a1 t491 t504 (!t521) l0_0 l0_1 a0_2 a0_3 a0_4)))) else (some false)))) else (some false))))) = some r:=H
  have A9:=Am A90
  clear A90
  replace H:=Option.bind_eq_some_iff.mp H
  obtain ⟨⟨t494,t497,t500,t501,t502⟩,A100,H⟩:=H
  replace H : ((impl_Curve.f k t494 t497 t500 t501 t502 a1).bind fun t504 => ((laws_eqPointS.f k t504 t491).bind fun t507 => (if t507 = true then ((laws_toProfile.f k l0_0 l0_1 a0_2 a0_3 a0_4).bind fun bt508 => ((laws_eqProfile.f k t494 t497 t500 t501 t502 bt508.1 bt508.2.1 bt508.2.2.1 bt508.2.2.2.1 bt508.2.2.2.2).bind fun t517 => (if t517 = true then ((laws_markProfile.f k t494 t497 t500 t501 t502 1).bind fun bt518 => (if bt518.1 < 0 then (laws_FnExactCurve.j0 k a1 t491 t504 true l0_0 l0_1 a0_2 a0_3 a0_4) else ((laws_eqPointS.f k t504 t491).bind fun t521 => (laws_FnExactCurve.j0 k a1 t491 t504 (!t521) l0_0 l0_1 a0_2 a0_3 a0_4)))) else (some false)))) else (some false)))) = some r:=H
  have A10:=Am A100
  clear A100
  replace H:=Option.bind_eq_some_iff.mp H
  obtain ⟨t504,A110,H⟩:=H
  replace H : ((laws_eqPointS.f k t504 t491).bind fun t507 => (if t507 = true then ((laws_toProfile.f k l0_0 l0_1 a0_2 a0_3 a0_4).bind fun bt508 => ((laws_eqProfile.f k t494 t497 t500 t501 t502 bt508.1 bt508.2.1 bt508.2.2.1 bt508.2.2.2.1 bt508.2.2.2.2).bind fun t517 => (if t517 = true then ((laws_markProfile.f k t494 t497 t500 t501 t502 1).bind fun bt518 => (if bt518.1 < 0 then (laws_FnExactCurve.j0 k a1 t491 t504 true l0_0 l0_1 a0_2 a0_3 a0_4) else ((laws_eqPointS.f k t504 t491).bind fun t521 => (laws_FnExactCurve.j0 k a1 t491 t504 (!t521) l0_0 l0_1 a0_2 a0_3 a0_4)))) else (some false)))) else (some false))) = some r:=H
  have A11:=Am A110
  clear A110
  replace H:=Option.bind_eq_some_iff.mp H
  obtain ⟨t507,A120,H⟩:=H
  replace H : (if t507 = true then ((laws_toProfile.f k l0_0 l0_1 a0_2 a0_3 a0_4).bind fun bt508 => ((laws_eqProfile.f k t494 t497 t500 t501 t502 bt508.1 bt508.2.1 bt508.2.2.1 bt508.2.2.2.1 bt508.2.2.2.2).bind fun t517 => (if t517 = true then ((laws_markProfile.f k t494 t497 t500 t501 t502 1).bind fun bt518 => (if bt518.1 < 0 then (laws_FnExactCurve.j0 k a1 t491 t504 true l0_0 l0_1 a0_2 a0_3 a0_4) else ((laws_eqPointS.f k t504 t491).bind fun t521 => (laws_FnExactCurve.j0 k a1 t491 t504 (!t521) l0_0 l0_1 a0_2 a0_3 a0_4)))) else (some false)))) else (some false)) = some r:=H
  have A12:=Am A120
  clear A120
  by_cases c13 : t507 = true
  ·subst c13
   have H1 : ((laws_toProfile.f k l0_0 l0_1 a0_2 a0_3 a0_4).bind fun bt508 => ((laws_eqProfile.f k t494 t497 t500 t501 t502 bt508.1 bt508.2.1 bt508.2.2.1 bt508.2.2.2.1 bt508.2.2.2.2).bind fun t517 => (if t517 = true then ((laws_markProfile.f k t494 t497 t500 t501 t502 1).bind fun bt518 => (if bt518.1 < 0 then (laws_FnExactCurve.j0 k a1 t491 t504 true l0_0 l0_1 a0_2 a0_3 a0_4) else ((laws_eqPointS.f k t504 t491).bind fun t521 => (laws_FnExactCurve.j0 k a1 t491 t504 (!t521) l0_0 l0_1 a0_2 a0_3 a0_4)))) else (some false)))) = some r:=by rw [if_pos rfl] at H;exact H
   clear H
   have H:=H1
   clear H1
   replace H:=Option.bind_eq_some_iff.mp H
   obtain ⟨⟨t508,t511,t514,t515,t516⟩,A140,H⟩:=H
   replace H : ((laws_eqProfile.f k t494 t497 t500 t501 t502 t508 t511 t514 t515 t516).bind fun t517 => (if t517 = true then ((laws_markProfile.f k t494 t497 t500 t501 t502 1).bind fun bt518 => (if bt518.1 < 0 then (laws_FnExactCurve.j0 k a1 t491 t504 true l0_0 l0_1 a0_2 a0_3 a0_4) else ((laws_eqPointS.f k t504 t491).bind fun t521 => (laws_FnExactCurve.j0 k a1 t491 t504 (!t521) l0_0 l0_1 a0_2 a0_3 a0_4)))) else (some false))) = some r:=H
   have A14:=Am A140
   clear A140
   replace H:=Option.bind_eq_some_iff.mp H
   obtain ⟨t517,A150,H⟩:=H
   replace H : (if t517 = true then ((laws_markProfile.f k t494 t497 t500 t501 t502 1).bind fun bt518 => (if bt518.1 < 0 then (laws_FnExactCurve.j0 k a1 t491 t504 true l0_0 l0_1 a0_2 a0_3 a0_4) else ((laws_eqPointS.f k t504 t491).bind fun t521 => (laws_FnExactCurve.j0 k a1 t491 t504 (!t521) l0_0 l0_1 a0_2 a0_3 a0_4)))) else (some false)) = some r:=H
   have A15:=Am A150
   clear A150
   by_cases c16 : t517 = true
   ·subst c16
    have H1 : ((laws_markProfile.f k t494 t497 t500 t501 t502 1).bind fun bt518 => (if bt518.1 < 0 then (laws_FnExactCurve.j0 k a1 t491 t504 true l0_0 l0_1 a0_2 a0_3 a0_4) else ((laws_eqPointS.f k t504 t491).bind fun t521 => (laws_FnExactCurve.j0 k a1 t491 t504 (!t521) l0_0 l0_1 a0_2 a0_3 a0_4)))) = some r:=by rw [if_pos rfl] at H;exact H
    clear H
    have H:=H1
    clear H1
    replace H:=Option.bind_eq_some_iff.mp H
    obtain ⟨⟨t518,t519,t520⟩,A170,H⟩:=H
    replace H : (if t518 < 0 then (laws_FnExactCurve.j0 k a1 t491 t504 true l0_0 l0_1 a0_2 a0_3 a0_4) else ((laws_eqPointS.f k t504 t491).bind fun t521 => (laws_FnExactCurve.j0 k a1 t491 t504 (!t521) l0_0 l0_1 a0_2 a0_3 a0_4))) = some r:=H
    have A17:=Am A170
    clear A170
    have HC18:=Am H
    clear H
    go_enter Try.func11,Try.ntmps11
    try go_wp2_with (first|((with_reducible refine gate_dst (N:=2) rfl ?_);refine box_event ?hg (N:=2) ?hd (cs:=#[.slice A0_0 l0_0.length c0_0,.slice A0_1 l0_1.length c0_1,.int .i64 a0_2,.int .i64 a0_3,.int .i64 a0_4]) (t:=25) ?hr ?_;(case hd => rfl);(case hg => rfl);(case hr => first|(go_simp;done)|(go_simp;rfl));intro gb480 hg w19 hbox hb;have n0_:=Am (below_step (by repeat (first|(with_reducible first|exact HB.out|apply bA|apply bN|apply bD)|exact HB.out)) hb);have n1_:=Am (hbox);have n2_:=Am ((by rw [hg];exact (below_size (by repeat (first|(with_reducible first|exact HB.out|apply bA|apply bN|apply bD)|exact HB.out))) : w.heap.size ≤ gb480));have n3_:=Am ((by rw [hg];exact (below_size (by repeat (first|(with_reducible first|exact HB.out|apply bA|apply bN|apply bD)|exact HB.out))) : w.heap.size ≤ gb480));clear HB;have HB:=n0_;have BK480:=n1_;have GW480:=n2_;have GE480:=n3_;clear n0_ n1_ n2_ n3_;clear hb hbox hg;have hcz20_0 : w19.cell? ⟨gb480,0,none⟩ = some (.slice A0_0 l0_0.length c0_0):=(kC BK480.out 0).trans rfl;have hcz20_1 : w19.cell? ⟨gb480,1,none⟩ = some (.slice A0_1 l0_1.length c0_1):=(kC BK480.out 1).trans rfl;have hcz20_2 : w19.cell? ⟨gb480,2,none⟩ = some (.int .i64 a0_2):=(kC BK480.out 2).trans rfl;have hcz20_3 : w19.cell? ⟨gb480,3,none⟩ = some (.int .i64 a0_3):=(kC BK480.out 3).trans rfl;have hcz20_4 : w19.cell? ⟨gb480,4,none⟩ = some (.int .i64 a0_4):=(kC BK480.out 4).trans rfl;have hfz20_0:=kF BK480.out 0;have hfz20_1:=kF BK480.out 1;have hfz20_2:=kF BK480.out 2;have hfz20_3:=kF BK480.out 3;have hfz20_4:=kF BK480.out 4)|((with_reducible refine gate_callee (f:=14) rfl ?_);refine goesL_ (some 15) rfl rfl Try.func14 (by kernel_rfl) rfl #[.agg #[.slice A0_0 l0_0.length c0_0,.slice A0_1 l0_1.length c0_1,.int .i64 a0_2,.int .i64 a0_3,.int .i64 a0_4],.int .i64 1048576] rfl (by (try simp only [List.map_toArray,List.map_cons,List.map_nil]);first|done|rfl|(simp only [List.length_drop,List.length_take];rfl)) ?_;(with_reducible refine (laws_szProfile.calls _ _ l0_0 _ _ l0_1 a0_2 a0_3 a0_4 1048576 t481 _ ?side1 ?side2 ?side3 ?side4 A3.out).mono ?_);(case side1 => repeat (first|exact (Kd.C_below HR0_0.out HB.out)|(with_reducible refine Kd.C_alloc ?_ _)|(with_reducible refine Kd.C_drewN ?_ _)|(with_reducible refine Kd.C_drew ?_)));(case side2 => exact HC0_0.out);(case side3 => repeat (first|exact (Kd.C_below HR0_1.out HB.out)|(with_reducible refine Kd.C_alloc ?_ _)|(with_reducible refine Kd.C_drewN ?_ _)|(with_reducible refine Kd.C_drew ?_)));(case side4 => exact HC0_1.out);rintro e w21 ⟨rfl,hb⟩;refine ⟨_,rfl,?_⟩;have n0_:=Am (blk_below (g:=gb480) (o:=.cells #[.slice A0_0 l0_0.length c0_0,.slice A0_1 l0_1.length c0_1,.int .i64 a0_2,.int .i64 a0_3,.int .i64 a0_4] 25 (0,0)) (by (with_reducible repeat (first|refine kN ?_ _|refine kD ?_|refine kA ?_ _));exact BK480.out) hb);have n1_:=Am (below_step (by repeat (first|(with_reducible first|exact HB.out|apply bA|apply bN|apply bD|refine bS ?_ GE480.out)|exact HB.out)) hb);clear BK480;clear HB;have BK480:=n0_;have HB:=n1_;clear n0_ n1_;(try clear hb);(try clear hb2);(try clear hk);(try clear hi);have hcz22_0 : w21.cell? ⟨gb480,0,none⟩ = some (.slice A0_0 l0_0.length c0_0):=(kC BK480.out 0).trans rfl;have hcz22_1 : w21.cell? ⟨gb480,1,none⟩ = some (.slice A0_1 l0_1.length c0_1):=(kC BK480.out 1).trans rfl;have hcz22_2 : w21.cell? ⟨gb480,2,none⟩ = some (.int .i64 a0_2):=(kC BK480.out 2).trans rfl;have hcz22_3 : w21.cell? ⟨gb480,3,none⟩ = some (.int .i64 a0_3):=(kC BK480.out 3).trans rfl;have hcz22_4 : w21.cell? ⟨gb480,4,none⟩ = some (.int .i64 a0_4):=(kC BK480.out 4).trans rfl;have hfz22_0:=kF BK480.out 0;have hfz22_1:=kF BK480.out 1;have hfz22_2:=kF BK480.out 2;have hfz22_3:=kF BK480.out 3;have hfz22_4:=kF BK480.out 4)|((with_reducible refine gate_callee (f:=16) rfl ?_);refine goesL_ (some 19) rfl rfl Try.func16 (by kernel_rfl) rfl #[.agg #[.slice A0_0 l0_0.length c0_0,.slice A0_1 l0_1.length c0_1,.int .i64 a0_2,.int .i64 a0_3,.int .i64 a0_4]] rfl (by (try simp only [List.map_toArray,List.map_cons,List.map_nil]);first|done|rfl|(simp only [List.length_drop,List.length_take];rfl)) ?_;(with_reducible refine (laws_toProfile.calls k _ _ l0_0 _ _ l0_1 a0_2 a0_3 a0_4 t482 t485 t488 t489 t490 _ ?side1 ?side2 ?side3 ?side4 A8.out).mono ?_);(case side1 => repeat (first|exact (Kd.C_below HR0_0.out HB.out)|(with_reducible refine Kd.C_alloc ?_ _)|(with_reducible refine Kd.C_drewN ?_ _)|(with_reducible refine Kd.C_drew ?_)));(case side2 => exact HC0_0.out);(case side3 => repeat (first|exact (Kd.C_below HR0_1.out HB.out)|(with_reducible refine Kd.C_alloc ?_ _)|(with_reducible refine Kd.C_drewN ?_ _)|(with_reducible refine Kd.C_drew ?_)));(case side4 => exact HC0_1.out);rintro e w23 ⟨v483,v486,rfl,ho0,ho1,hb⟩;refine ⟨_,rfl,?_⟩;have n0_:=Am (Kd.R_lower ho0 (below_size (by repeat (first|(with_reducible first|exact HB.out|apply bA|apply bN|apply bD|refine bS ?_ GE480.out)|exact HB.out))));have n1_:=Am (Kd.R_lower ho1 (below_size (by repeat (first|(with_reducible first|exact HB.out|apply bA|apply bN|apply bD|refine bS ?_ GE480.out)|exact HB.out))));have n2_:=Am (blk_below (g:=gb480) (o:=.cells #[.slice A0_0 l0_0.length c0_0,.slice A0_1 l0_1.length c0_1,.int .i64 a0_2,.int .i64 a0_3,.int .i64 a0_4] 25 (0,0)) (by (with_reducible repeat (first|refine kN ?_ _|refine kD ?_|refine kA ?_ _));exact BK480.out) hb);have n3_:=Am (below_step (by repeat (first|(with_reducible first|exact HB.out|apply bA|apply bN|apply bD|refine bS ?_ GE480.out)|exact HB.out)) hb);clear BK480;clear HB;have HO484:=n0_;have HO487:=n1_;have BK480:=n2_;have HB:=n3_;clear n0_ n1_ n2_ n3_;(try clear hb);(try clear hb2);(try clear hk);(try clear hi);(try clear ho0);(try clear ho1);obtain ⟨Ao24,co24,eo24⟩:=Kd.R_slice HO484.out;subst eo24;obtain ⟨Ao25,co25,eo25⟩:=Kd.R_slice HO487.out;subst eo25)|((with_reducible refine gate_callee (f:=38) rfl ?_);refine goesL_ (some 21) rfl rfl Try.func38 (by kernel_rfl) rfl #[.agg #[.slice Ao24 t482.length co24,.slice Ao25 t485.length co25,.int .i64 t488,.int .i64 t489,.int .i64 t490],.int .i64 a1] rfl (by (try simp only [List.map_toArray,List.map_cons,List.map_nil]);first|done|rfl|(simp only [List.length_drop,List.length_take];rfl)) ?_;(with_reducible refine (spec_Curve.calls k _ _ t482 _ _ t485 t488 t489 t490 a1 t491 _ ?side1 ?side2 ?side3 ?side4 A9.out).mono ?_);(case side1 => repeat (first|exact (Kd.R_reads' HO484.out).2.2|(with_reducible refine Kd.C_alloc ?_ _)|(with_reducible refine Kd.C_drewN ?_ _)|(with_reducible refine Kd.C_drew ?_)));(case side2 => exact (Kd.R_reads' HO484.out).2.1);(case side3 => repeat (first|exact (Kd.R_reads' HO487.out).2.2|(with_reducible refine Kd.C_alloc ?_ _)|(with_reducible refine Kd.C_drewN ?_ _)|(with_reducible refine Kd.C_drew ?_)));(case side4 => exact (Kd.R_reads' HO487.out).2.1);rintro e w26 ⟨v492,rfl,ho0,hb⟩;refine ⟨_,rfl,?_⟩;have n0_:=Am (Kd.R_below (by (with_reducible repeat (first|apply Kd.R_alloc|apply Kd.R_drewN|apply Kd.R_drew));exact HO484.out) hb);have n1_:=Am (Kd.R_below (by (with_reducible repeat (first|apply Kd.R_alloc|apply Kd.R_drewN|apply Kd.R_drew));exact HO487.out) hb);have n2_:=Am (Kd.R_lower ho0 (below_size (by repeat (first|(with_reducible first|exact HB.out|apply bA|apply bN|apply bD|refine bS ?_ GE480.out)|exact HB.out))));have n3_:=Am (blk_below (g:=gb480) (o:=.cells #[.slice A0_0 l0_0.length c0_0,.slice A0_1 l0_1.length c0_1,.int .i64 a0_2,.int .i64 a0_3,.int .i64 a0_4] 25 (0,0)) (by (with_reducible repeat (first|refine kN ?_ _|refine kD ?_|refine kA ?_ _));exact BK480.out) hb);have n4_:=Am (below_step (by repeat (first|(with_reducible first|exact HB.out|apply bA|apply bN|apply bD|refine bS ?_ GE480.out)|exact HB.out)) hb);clear HO484;clear HO487;clear BK480;clear HB;have HO484:=n0_;have HO487:=n1_;have HO493:=n2_;have BK480:=n3_;have HB:=n4_;clear n0_ n1_ n2_ n3_ n4_;(try clear hb);(try clear hb2);(try clear hk);(try clear hi);(try clear ho0);have hcz27_0 : w26.cell? ⟨gb480,0,none⟩ = some (.slice A0_0 l0_0.length c0_0):=(kC BK480.out 0).trans rfl;have hcz27_1 : w26.cell? ⟨gb480,1,none⟩ = some (.slice A0_1 l0_1.length c0_1):=(kC BK480.out 1).trans rfl;have hcz27_2 : w26.cell? ⟨gb480,2,none⟩ = some (.int .i64 a0_2):=(kC BK480.out 2).trans rfl;have hcz27_3 : w26.cell? ⟨gb480,3,none⟩ = some (.int .i64 a0_3):=(kC BK480.out 3).trans rfl;have hcz27_4 : w26.cell? ⟨gb480,4,none⟩ = some (.int .i64 a0_4):=(kC BK480.out 4).trans rfl;have hfz27_0:=kF BK480.out 0;have hfz27_1:=kF BK480.out 1;have hfz27_2:=kF BK480.out 2;have hfz27_3:=kF BK480.out 3;have hfz27_4:=kF BK480.out 4)|((with_reducible refine gate_callee (f:=16) rfl ?_);refine goesL_ (some 23) rfl rfl Try.func16 (by kernel_rfl) rfl #[.agg #[.slice A0_0 l0_0.length c0_0,.slice A0_1 l0_1.length c0_1,.int .i64 a0_2,.int .i64 a0_3,.int .i64 a0_4]] rfl (by (try simp only [List.map_toArray,List.map_cons,List.map_nil]);first|done|rfl|(simp only [List.length_drop,List.length_take];rfl)) ?_;(with_reducible refine (laws_toProfile.calls k _ _ l0_0 _ _ l0_1 a0_2 a0_3 a0_4 t494 t497 t500 t501 t502 _ ?side1 ?side2 ?side3 ?side4 A10.out).mono ?_);(case side1 => repeat (first|exact (Kd.C_below HR0_0.out HB.out)|(with_reducible refine Kd.C_alloc ?_ _)|(with_reducible refine Kd.C_drewN ?_ _)|(with_reducible refine Kd.C_drew ?_)));(case side2 => exact HC0_0.out);(case side3 => repeat (first|exact (Kd.C_below HR0_1.out HB.out)|(with_reducible refine Kd.C_alloc ?_ _)|(with_reducible refine Kd.C_drewN ?_ _)|(with_reducible refine Kd.C_drew ?_)));(case side4 => exact HC0_1.out);rintro e w28 ⟨v495,v498,rfl,ho0,ho1,hb⟩;refine ⟨_,rfl,?_⟩;have n0_:=Am (Kd.R_elder' (by (with_reducible repeat (first|apply Kd.R_alloc|apply Kd.R_drewN|apply Kd.R_drew));exact HO484.out) (Kd.R_base ho0) hb);have n1_:=Am (Kd.R_elder' (by (with_reducible repeat (first|apply Kd.R_alloc|apply Kd.R_drewN|apply Kd.R_drew));exact HO487.out) (Kd.R_base ho1) hb);have n2_:=Am (Kd.R_below (by (with_reducible repeat (first|apply Kd.R_alloc|apply Kd.R_drewN|apply Kd.R_drew));exact HO493.out) hb);have n3_:=Am (Kd.R_lower (Kd.R_new' ho0 (Kd.R_lt (by (with_reducible repeat (first|apply Kd.R_alloc|apply Kd.R_drewN|apply Kd.R_drew));exact HO484.out))) (below_size (by repeat (first|(with_reducible first|exact HB.out|apply bA|apply bN|apply bD|refine bS ?_ GE480.out)|exact HB.out))));have n4_:=Am (Kd.R_lower (Kd.R_new' ho1 (Kd.R_lt (by (with_reducible repeat (first|apply Kd.R_alloc|apply Kd.R_drewN|apply Kd.R_drew));exact HO487.out))) (below_size (by repeat (first|(with_reducible first|exact HB.out|apply bA|apply bN|apply bD|refine bS ?_ GE480.out)|exact HB.out))));have n5_:=Am (blk_below (g:=gb480) (o:=.cells #[.slice A0_0 l0_0.length c0_0,.slice A0_1 l0_1.length c0_1,.int .i64 a0_2,.int .i64 a0_3,.int .i64 a0_4] 25 (0,0)) (by (with_reducible repeat (first|refine kN ?_ _|refine kD ?_|refine kA ?_ _));exact BK480.out) hb);have n6_:=Am (below_step (by repeat (first|(with_reducible first|exact HB.out|apply bA|apply bN|apply bD|refine bS ?_ GE480.out)|exact HB.out)) hb);clear HO484;clear HO487;clear HO493;clear BK480;clear HB;have HO484:=n0_;have HO487:=n1_;have HO493:=n2_;have HO496:=n3_;have HO499:=n4_;have BK480:=n5_;have HB:=n6_;clear n0_ n1_ n2_ n3_ n4_ n5_ n6_;(try clear hb);(try clear hb2);(try clear hk);(try clear hi);(try clear ho0);(try clear ho1))|((with_reducible refine gate_dst (N:=7) rfl ?_);refine box_event ?hg (N:=7) ?hd (cs:=#[.slice none 0 0,.slice none 0 0,.int .i64 0,.int .i64 0,.int .i64 0]) (t:=31) ?hr ?_;(case hd => rfl);(case hg => rfl);(case hr => first|(go_simp;done)|(go_simp;rfl));intro gb503 hg w29 hbox hb;have n0_:=Am (Kd.R_below (by (with_reducible repeat (first|apply Kd.R_alloc|apply Kd.R_drewN|apply Kd.R_drew));exact HO484.out) hb);have n1_:=Am (Kd.R_below (by (with_reducible repeat (first|apply Kd.R_alloc|apply Kd.R_drewN|apply Kd.R_drew));exact HO487.out) hb);have n2_:=Am (Kd.R_below (by (with_reducible repeat (first|apply Kd.R_alloc|apply Kd.R_drewN|apply Kd.R_drew));exact HO493.out) hb);have n3_:=Am (Kd.R_below (by (with_reducible repeat (first|apply Kd.R_alloc|apply Kd.R_drewN|apply Kd.R_drew));exact HO496.out) hb);have n4_:=Am (Kd.R_below (by (with_reducible repeat (first|apply Kd.R_alloc|apply Kd.R_drewN|apply Kd.R_drew));exact HO499.out) hb);have n5_:=Am (blk_below (g:=gb480) (o:=.cells #[.slice A0_0 l0_0.length c0_0,.slice A0_1 l0_1.length c0_1,.int .i64 a0_2,.int .i64 a0_3,.int .i64 a0_4] 25 (0,0)) (by (with_reducible repeat (first|refine kN ?_ _|refine kD ?_|refine kA ?_ _));exact BK480.out) hb);have n6_:=Am (below_step (by repeat (first|(with_reducible first|exact HB.out|apply bA|apply bN|apply bD|refine bS ?_ GE480.out)|exact HB.out)) hb);have n7_:=Am (hbox);have n8_:=Am ((by rw [hg];exact (below_size (by repeat (first|(with_reducible first|exact HB.out|apply bA|apply bN|apply bD|refine bS ?_ GE480.out)|exact HB.out))) : w.heap.size ≤ gb503));have n9_:=Am ((by rw [hg];exact (below_size (by repeat (first|(with_reducible first|exact HB.out|apply bA|apply bN|apply bD|refine bS ?_ GE480.out)|exact HB.out))) : w.heap.size ≤ gb503));have n10_:=Am ((by rw [hg];exact Nat.ne_of_lt (blk_lt (g:=gb480) (o:=.cells #[.slice A0_0 l0_0.length c0_0,.slice A0_1 l0_1.length c0_1,.int .i64 a0_2,.int .i64 a0_3,.int .i64 a0_4] 25 (0,0)) (by (with_reducible repeat (first|refine kN ?_ _|refine kD ?_|refine kA ?_ _));exact BK480.out)) : gb480 ≠ gb503));have n11_:=Am ((by rw [hg];exact Nat.ne_of_gt (blk_lt (g:=gb480) (o:=.cells #[.slice A0_0 l0_0.length c0_0,.slice A0_1 l0_1.length c0_1,.int .i64 a0_2,.int .i64 a0_3,.int .i64 a0_4] 25 (0,0)) (by (with_reducible repeat (first|refine kN ?_ _|refine kD ?_|refine kA ?_ _));exact BK480.out)) : gb503 ≠ gb480));clear HO484;clear HO487;clear HO493;clear HO496;clear HO499;clear BK480;clear HB;have HO484:=n0_;have HO487:=n1_;have HO493:=n2_;have HO496:=n3_;have HO499:=n4_;have BK480:=n5_;have HB:=n6_;have BK503:=n7_;have GW503:=n8_;have GE503:=n9_;have NB480_503:=n10_;have NB503_480:=n11_;clear n0_ n1_ n2_ n3_ n4_ n5_ n6_ n7_ n8_ n9_ n10_ n11_;clear hb hbox hg;obtain ⟨Ao30,co30,eo30⟩:=Kd.R_slice HO496.out;subst eo30;have hnb31:=NB503_480.out;have hnc31:=NB480_503.out;have hcz32_0 : w29.cell? ⟨gb503,0,none⟩ = some (.slice none 0 0):=(kC BK503.out 0).trans rfl;have hcz32_1 : w29.cell? ⟨gb503,1,none⟩ = some (.slice none 0 0):=(kC BK503.out 1).trans rfl;have hcz32_2 : w29.cell? ⟨gb503,2,none⟩ = some (.int .i64 0):=(kC BK503.out 2).trans rfl;have hcz32_3 : w29.cell? ⟨gb503,3,none⟩ = some (.int .i64 0):=(kC BK503.out 3).trans rfl;have hcz32_4 : w29.cell? ⟨gb503,4,none⟩ = some (.int .i64 0):=(kC BK503.out 4).trans rfl;have hfz32_0:=kF BK503.out 0;have hfz32_1:=kF BK503.out 1;have hfz32_2:=kF BK503.out 2;have hfz32_3:=kF BK503.out 3;have hfz32_4:=kF BK503.out 4;obtain ⟨Ao33,co33,eo33⟩:=Kd.R_slice HO499.out;subst eo33)|((with_reducible refine gate_callee (f:=39) rfl ?_);refine goesL_ (some 26) rfl rfl Try.func39 (by kernel_rfl) rfl #[.agg #[.slice Ao30 t494.length co30,.slice Ao33 t497.length co33,.int .i64 t500,.int .i64 t501,.int .i64 t502],.int .i64 a1] rfl (by (try simp only [List.map_toArray,List.map_cons,List.map_nil]);first|done|rfl|(simp only [List.length_drop,List.length_take];rfl)) ?_;(with_reducible refine (impl_Curve.calls k _ _ t494 _ _ t497 t500 t501 t502 a1 t504 _ ?side1 ?side2 ?side3 ?side4 A11.out).mono ?_);(case side1 => refine (Kd.R_reads' (e:=71) (base:=w.heap.size) (ok:=fun k_ => (True∧some k_ ≠ (.slice Ao24 t482.length co24 : Value).ownBlock)) (n:=t494.length) (c:=co30) ?_).2.2;exact (by (with_reducible repeat (first|apply Kd.R_alloc|apply Kd.R_drewN|apply Kd.R_drew));exact (Kd.R_mono (Kd.R_far (p:=⟨gb503,4,none⟩) (Kd.R_far (p:=⟨gb503,3,none⟩) (Kd.R_far (p:=⟨gb503,2,none⟩) (Kd.R_far (p:=⟨gb503,1,none⟩) (Kd.R_far (p:=⟨gb503,0,none⟩) (Kd.R_types HO496.out BK503.out (by decide)) (fun _ hk => hk.2) (.slice Ao30 t494.length co30)) (fun _ hk => hk.2) (.slice Ao33 t497.length co33)) (fun _ hk => hk.2) (.int .i64 t500)) (fun _ hk => hk.2) (.int .i64 t501)) (fun _ hk => hk.2) (.int .i64 t502)) (fun _ h_ => h_.1))));(case side2 => exact (Kd.R_reads' HO496.out).2.1);(case side3 => refine (Kd.R_reads' (e:=75) (base:=w.heap.size) (ok:=fun k_ => (True∧some k_ ≠ (.slice Ao25 t485.length co25 : Value).ownBlock)) (n:=t497.length) (c:=co33) ?_).2.2;exact (by (with_reducible repeat (first|apply Kd.R_alloc|apply Kd.R_drewN|apply Kd.R_drew));exact (Kd.R_mono (Kd.R_far (p:=⟨gb503,4,none⟩) (Kd.R_far (p:=⟨gb503,3,none⟩) (Kd.R_far (p:=⟨gb503,2,none⟩) (Kd.R_far (p:=⟨gb503,1,none⟩) (Kd.R_far (p:=⟨gb503,0,none⟩) (Kd.R_types HO499.out BK503.out (by decide)) (fun _ hk => hk.2) (.slice Ao30 t494.length co30)) (fun _ hk => hk.2) (.slice Ao33 t497.length co33)) (fun _ hk => hk.2) (.int .i64 t500)) (fun _ hk => hk.2) (.int .i64 t501)) (fun _ hk => hk.2) (.int .i64 t502)) (fun _ h_ => h_.1))));(case side4 => exact (Kd.R_reads' HO499.out).2.1);rintro e w34 ⟨v505,rfl,ho0,hb⟩;refine ⟨_,rfl,?_⟩;have n0_:=Am (Kd.R_below (by (with_reducible repeat (first|apply Kd.R_alloc|apply Kd.R_drewN|apply Kd.R_drew));exact (Kd.R_mono (Kd.R_far (p:=⟨gb503,4,none⟩) (Kd.R_far (p:=⟨gb503,3,none⟩) (Kd.R_far (p:=⟨gb503,2,none⟩) (Kd.R_far (p:=⟨gb503,1,none⟩) (Kd.R_far (p:=⟨gb503,0,none⟩) (Kd.R_types HO484.out BK503.out (by decide)) (fun _ hk => hk.2) (.slice Ao30 t494.length co30)) (fun _ hk => hk.2) (.slice Ao33 t497.length co33)) (fun _ hk => hk.2) (.int .i64 t500)) (fun _ hk => hk.2) (.int .i64 t501)) (fun _ hk => hk.2) (.int .i64 t502)) (fun _ h_ => h_.1))) hb);have n1_:=Am (Kd.R_below (by (with_reducible repeat (first|apply Kd.R_alloc|apply Kd.R_drewN|apply Kd.R_drew));exact (Kd.R_mono (Kd.R_far (p:=⟨gb503,4,none⟩) (Kd.R_far (p:=⟨gb503,3,none⟩) (Kd.R_far (p:=⟨gb503,2,none⟩) (Kd.R_far (p:=⟨gb503,1,none⟩) (Kd.R_far (p:=⟨gb503,0,none⟩) (Kd.R_types HO487.out BK503.out (by decide)) (fun _ hk => hk.2) (.slice Ao30 t494.length co30)) (fun _ hk => hk.2) (.slice Ao33 t497.length co33)) (fun _ hk => hk.2) (.int .i64 t500)) (fun _ hk => hk.2) (.int .i64 t501)) (fun _ hk => hk.2) (.int .i64 t502)) (fun _ h_ => h_.1))) hb);have n2_:=Am (Kd.R_elder' (by (with_reducible repeat (first|apply Kd.R_alloc|apply Kd.R_drewN|apply Kd.R_drew));exact (Kd.R_mono (Kd.R_far (p:=⟨gb503,4,none⟩) (Kd.R_far (p:=⟨gb503,3,none⟩) (Kd.R_far (p:=⟨gb503,2,none⟩) (Kd.R_far (p:=⟨gb503,1,none⟩) (Kd.R_far (p:=⟨gb503,0,none⟩) (Kd.R_types HO493.out BK503.out (by decide)) (fun _ hk => hk.2) (.slice Ao30 t494.length co30)) (fun _ hk => hk.2) (.slice Ao33 t497.length co33)) (fun _ hk => hk.2) (.int .i64 t500)) (fun _ hk => hk.2) (.int .i64 t501)) (fun _ hk => hk.2) (.int .i64 t502)) (fun _ h_ => h_.1))) (Kd.R_base ho0) hb);have n3_:=Am (Kd.R_below (by (with_reducible repeat (first|apply Kd.R_alloc|apply Kd.R_drewN|apply Kd.R_drew));exact (Kd.R_mono (Kd.R_far (p:=⟨gb503,4,none⟩) (Kd.R_far (p:=⟨gb503,3,none⟩) (Kd.R_far (p:=⟨gb503,2,none⟩) (Kd.R_far (p:=⟨gb503,1,none⟩) (Kd.R_far (p:=⟨gb503,0,none⟩) (Kd.R_types HO496.out BK503.out (by decide)) (fun _ hk => hk.2) (.slice Ao30 t494.length co30)) (fun _ hk => hk.2) (.slice Ao33 t497.length co33)) (fun _ hk => hk.2) (.int .i64 t500)) (fun _ hk => hk.2) (.int .i64 t501)) (fun _ hk => hk.2) (.int .i64 t502)) (fun _ h_ => h_.1))) hb);have n4_:=Am (Kd.R_below (by (with_reducible repeat (first|apply Kd.R_alloc|apply Kd.R_drewN|apply Kd.R_drew));exact (Kd.R_mono (Kd.R_far (p:=⟨gb503,4,none⟩) (Kd.R_far (p:=⟨gb503,3,none⟩) (Kd.R_far (p:=⟨gb503,2,none⟩) (Kd.R_far (p:=⟨gb503,1,none⟩) (Kd.R_far (p:=⟨gb503,0,none⟩) (Kd.R_types HO499.out BK503.out (by decide)) (fun _ hk => hk.2) (.slice Ao30 t494.length co30)) (fun _ hk => hk.2) (.slice Ao33 t497.length co33)) (fun _ hk => hk.2) (.int .i64 t500)) (fun _ hk => hk.2) (.int .i64 t501)) (fun _ hk => hk.2) (.int .i64 t502)) (fun _ h_ => h_.1))) hb);have n5_:=Am (Kd.R_lower (Kd.R_new' ho0 (Kd.R_lt (by (with_reducible repeat (first|apply Kd.R_alloc|apply Kd.R_drewN|apply Kd.R_drew));exact (Kd.R_mono (Kd.R_far (p:=⟨gb503,4,none⟩) (Kd.R_far (p:=⟨gb503,3,none⟩) (Kd.R_far (p:=⟨gb503,2,none⟩) (Kd.R_far (p:=⟨gb503,1,none⟩) (Kd.R_far (p:=⟨gb503,0,none⟩) (Kd.R_types HO493.out BK503.out (by decide)) (fun _ hk => hk.2) (.slice Ao30 t494.length co30)) (fun _ hk => hk.2) (.slice Ao33 t497.length co33)) (fun _ hk => hk.2) (.int .i64 t500)) (fun _ hk => hk.2) (.int .i64 t501)) (fun _ hk => hk.2) (.int .i64 t502)) (fun _ h_ => h_.1))))) (below_size (by repeat (first|(with_reducible first|exact HB.out|apply bA|apply bN|apply bD|refine bS ?_ GE480.out|refine bS ?_ GE503.out)|exact HB.out))));have n6_:=Am (blk_below (g:=gb480) (o:=.cells #[.slice A0_0 l0_0.length c0_0,.slice A0_1 l0_1.length c0_1,.int .i64 a0_2,.int .i64 a0_3,.int .i64 a0_4] 25 (0,0)) (by (with_reducible repeat (first|refine kN ?_ _|refine kD ?_|refine kA ?_ _));refine blk_far ?_ NB480_503.out _;(with_reducible repeat (first|refine kN ?_ _|refine kD ?_|refine kA ?_ _));refine blk_far ?_ NB480_503.out _;(with_reducible repeat (first|refine kN ?_ _|refine kD ?_|refine kA ?_ _));refine blk_far ?_ NB480_503.out _;(with_reducible repeat (first|refine kN ?_ _|refine kD ?_|refine kA ?_ _));refine blk_far ?_ NB480_503.out _;(with_reducible repeat (first|refine kN ?_ _|refine kD ?_|refine kA ?_ _));refine blk_far ?_ NB480_503.out _;(with_reducible repeat (first|refine kN ?_ _|refine kD ?_|refine kA ?_ _));exact BK480.out) hb);have n7_:=Am (blk_below (g:=gb503) (o:=.cells #[.slice Ao30 t494.length co30,.slice Ao33 t497.length co33,.int .i64 t500,.int .i64 t501,.int .i64 t502] 31 (0,0)) (by (with_reducible repeat (first|refine kN ?_ _|refine kD ?_|refine kA ?_ _));refine blk_put (cs:=#[.slice Ao30 t494.length co30,.slice Ao33 t497.length co33,.int .i64 t500,.int .i64 t501,.int .i64 0]) ?_ 4 _ rfl;(with_reducible repeat (first|refine kN ?_ _|refine kD ?_|refine kA ?_ _));refine blk_put (cs:=#[.slice Ao30 t494.length co30,.slice Ao33 t497.length co33,.int .i64 t500,.int .i64 0,.int .i64 0]) ?_ 3 _ rfl;(with_reducible repeat (first|refine kN ?_ _|refine kD ?_|refine kA ?_ _));refine blk_put (cs:=#[.slice Ao30 t494.length co30,.slice Ao33 t497.length co33,.int .i64 0,.int .i64 0,.int .i64 0]) ?_ 2 _ rfl;(with_reducible repeat (first|refine kN ?_ _|refine kD ?_|refine kA ?_ _));refine blk_put (cs:=#[.slice Ao30 t494.length co30,.slice none 0 0,.int .i64 0,.int .i64 0,.int .i64 0]) ?_ 1 _ rfl;(with_reducible repeat (first|refine kN ?_ _|refine kD ?_|refine kA ?_ _));refine blk_put (cs:=#[.slice none 0 0,.slice none 0 0,.int .i64 0,.int .i64 0,.int .i64 0]) ?_ 0 _ rfl;(with_reducible repeat (first|refine kN ?_ _|refine kD ?_|refine kA ?_ _));exact BK503.out) hb);have n8_:=Am (below_step (by repeat (first|(with_reducible first|exact HB.out|apply bA|apply bN|apply bD|refine bS ?_ GE480.out|refine bS ?_ GE503.out)|exact HB.out)) hb);clear HO484;clear HO487;clear HO493;clear HO496;clear HO499;clear BK480;clear BK503;clear HB;have HO484:=n0_;have HO487:=n1_;have HO493:=n2_;have HO496:=n3_;have HO499:=n4_;have HO506:=n5_;have BK480:=n6_;have BK503:=n7_;have HB:=n8_;clear n0_ n1_ n2_ n3_ n4_ n5_ n6_ n7_ n8_;(try clear hb);(try clear hb2);(try clear hk);(try clear hi);(try clear ho0);obtain ⟨Ao35,co35,eo35⟩:=Kd.R_slice HO506.out;subst eo35;obtain ⟨Ao36,co36,eo36⟩:=Kd.R_slice HO493.out;subst eo36)|((with_reducible refine gate_callee (f:=40) rfl ?_);refine goesL_ (some 29) rfl rfl Try.func40 (by kernel_rfl) rfl #[.slice Ao35 t504.length co35,.slice Ao36 t491.length co36] rfl (by (try simp only [List.map_toArray,List.map_cons,List.map_nil]);first|done|rfl|(simp only [List.length_drop,List.length_take];rfl)) ?_;(with_reducible refine (laws_eqPointS.calls k _ _ t504 _ _ t491 true _ ?side1 ?side2 ?side3 ?side4 A12.out).mono ?_);(case side1 => repeat (first|exact (Kd.R_reads' HO506.out).2.2|(with_reducible refine Kd.C_alloc ?_ _)|(with_reducible refine Kd.C_drewN ?_ _)|(with_reducible refine Kd.C_drew ?_)));(case side2 => exact (Kd.R_reads' HO506.out).2.1);(case side3 => repeat (first|exact (Kd.R_reads' HO493.out).2.2|(with_reducible refine Kd.C_alloc ?_ _)|(with_reducible refine Kd.C_drewN ?_ _)|(with_reducible refine Kd.C_drew ?_)));(case side4 => exact (Kd.R_reads' HO493.out).2.1);rintro e w37 ⟨rfl,hb⟩;refine ⟨_,rfl,?_⟩;have n0_:=Am (Kd.R_below (by (with_reducible repeat (first|apply Kd.R_alloc|apply Kd.R_drewN|apply Kd.R_drew));exact HO484.out) hb);have n1_:=Am (Kd.R_below (by (with_reducible repeat (first|apply Kd.R_alloc|apply Kd.R_drewN|apply Kd.R_drew));exact HO487.out) hb);have n2_:=Am (Kd.R_below (by (with_reducible repeat (first|apply Kd.R_alloc|apply Kd.R_drewN|apply Kd.R_drew));exact HO493.out) hb);have n3_:=Am (Kd.R_below (by (with_reducible repeat (first|apply Kd.R_alloc|apply Kd.R_drewN|apply Kd.R_drew));exact HO496.out) hb);have n4_:=Am (Kd.R_below (by (with_reducible repeat (first|apply Kd.R_alloc|apply Kd.R_drewN|apply Kd.R_drew));exact HO499.out) hb);have n5_:=Am (Kd.R_below (by (with_reducible repeat (first|apply Kd.R_alloc|apply Kd.R_drewN|apply Kd.R_drew));exact HO506.out) hb);have n6_:=Am (blk_below (g:=gb480) (o:=.cells #[.slice A0_0 l0_0.length c0_0,.slice A0_1 l0_1.length c0_1,.int .i64 a0_2,.int .i64 a0_3,.int .i64 a0_4] 25 (0,0)) (by (with_reducible repeat (first|refine kN ?_ _|refine kD ?_|refine kA ?_ _));exact BK480.out) hb);have n7_:=Am (blk_below (g:=gb503) (o:=.cells #[.slice Ao30 t494.length co30,.slice Ao33 t497.length co33,.int .i64 t500,.int .i64 t501,.int .i64 t502] 31 (0,0)) (by (with_reducible repeat (first|refine kN ?_ _|refine kD ?_|refine kA ?_ _));exact BK503.out) hb);have n8_:=Am (below_step (by repeat (first|(with_reducible first|exact HB.out|apply bA|apply bN|apply bD|refine bS ?_ GE480.out|refine bS ?_ GE503.out)|exact HB.out)) hb);clear HO484;clear HO487;clear HO493;clear HO496;clear HO499;clear HO506;clear BK480;clear BK503;clear HB;have HO484:=n0_;have HO487:=n1_;have HO493:=n2_;have HO496:=n3_;have HO499:=n4_;have HO506:=n5_;have BK480:=n6_;have BK503:=n7_;have HB:=n8_;clear n0_ n1_ n2_ n3_ n4_ n5_ n6_ n7_ n8_;(try clear hb);(try clear hb2);(try clear hk);(try clear hi)))
    have n0_:=Am (Kd.R_drew HO484.out)
    have n1_:=Am (Kd.R_drew HO487.out)
    have n2_:=Am (Kd.R_drew HO493.out)
    have n3_:=Am (Kd.R_drew HO496.out)
    have n4_:=Am (Kd.R_drew HO499.out)
    have n5_:=Am (Kd.R_drew HO506.out)
    have n6_:=Am (kD BK480.out)
    have n7_:=Am (kD BK503.out)
    have n8_:=Am (bD HB.out)
    clear HO484
    clear HO487
    clear HO493
    clear HO496
    clear HO499
    clear HO506
    clear BK480
    clear BK503
    clear HB
    have HO484:=n0_
    have HO487:=n1_
    have HO493:=n2_
    have HO496:=n3_
    have HO499:=n4_
    have HO506:=n5_
    have BK480:=n6_
    have BK503:=n7_
    have HB:=n8_
    clear n0_ n1_ n2_ n3_ n4_ n5_ n6_ n7_ n8_
    refine start_ (n:=5) (S:=fun w' => w'.cell? ⟨gb503,0,none⟩ = some (.slice Ao30 t494.length co30)∧w'.cell? ⟨gb503,1,none⟩ = some (.slice Ao33 t497.length co33)∧w'.cell? ⟨gb503,2,none⟩ = some (.int .i64 t500)∧w'.cell? ⟨gb503,3,none⟩ = some (.int .i64 t501)∧w'.cell? ⟨gb503,4,none⟩ = some (.int .i64 t502)∧w'.cell? ⟨gb480,0,none⟩ = some (.slice A0_0 l0_0.length c0_0)∧w'.cell? ⟨gb480,1,none⟩ = some (.slice A0_1 l0_1.length c0_1)∧w'.cell? ⟨gb480,2,none⟩ = some (.int .i64 a0_2)∧w'.cell? ⟨gb480,3,none⟩ = some (.int .i64 a0_3)∧w'.cell? ⟨gb480,4,none⟩ = some (.int .i64 a0_4)) (ds:=[]) #[false,false,false,false,false] (by kernel_rfl) rfl rfl ⟨(kC BK503.out 0).trans rfl,(kC BK503.out 1).trans rfl,(kC BK503.out 2).trans rfl,(kC BK503.out 3).trans rfl,(kC BK503.out 4).trans rfl,(kC BK480.out 0).trans rfl,(kC BK480.out 1).trans rfl,(kC BK480.out 2).trans rfl,(kC BK480.out 3).trans rfl,(kC BK480.out 4).trans rfl⟩ (fun hHeld => ?_)
    generalize w37.drew = w38 at HO484 HO487 HO493 HO496 HO499 HO506 BK480 BK503 HB hHeld ⊢
    refine take_ (i:=0) (N:=some 31) (v:=?_) (a':=?_) #[true,false,false,false,false] rfl rfl (by kernel_rfl) (fun _ _ _ h => h) (Or.inl ⟨by rfl,?_⟩) hHeld ?_ ?_
    rotate_left
    ·rintro w' ⟨s0,s1,s2,s3,s4,s5,s6,s7,s8,s9⟩
     go_simp
     with_reducible rfl
    rotate_left
    ·simp only [Act.put,pS]
     rfl
    refine take_ (i:=1) (N:=some 32) (v:=?_) (a':=?_) #[true,true,false,false,false] rfl rfl (by kernel_rfl) (fun _ _ _ h => h) (Or.inl ⟨by rfl,?_⟩) hHeld ?_ ?_
    rotate_left
    ·rintro w' ⟨s0,s1,s2,s3,s4,s5,s6,s7,s8,s9⟩
     go_simp
     with_reducible rfl
    rotate_left
    ·simp only [Act.put,pS]
     rfl
    refine one_ (i:=2) (N:=some 33) #[true,true,true,false,false] rfl rfl (by kernel_rfl) (by decide) (fun K hK => ?_)
    refine goes_ Try.func16 (by kernel_rfl) rfl #[.agg #[.slice A0_0 l0_0.length c0_0,.slice A0_1 l0_1.length c0_1,.int .i64 a0_2,.int .i64 a0_3,.int .i64 a0_4]] (by rfl) rfl rfl (by (try simp only [List.map_toArray,List.map_cons,List.map_nil]);first|done|rfl|(simp only [List.length_drop,List.length_take];rfl)) ?_
    with_reducible refine (laws_toProfile.calls k _ _ l0_0 _ _ l0_1 a0_2 a0_3 a0_4 t508 t511 t514 t515 t516 _ ?side1 ?side2 ?side3 ?side4 A14.out).mono ?_
    (case side1 => repeat (first|exact (Kd.C_below HR0_0.out HB.out)|(with_reducible refine Kd.C_alloc ?_ _)|(with_reducible refine Kd.C_drewN ?_ _)|(with_reducible refine Kd.C_drew ?_)))
    (case side2 => exact HC0_0.out)
    (case side3 => repeat (first|exact (Kd.C_below HR0_1.out HB.out)|(with_reducible refine Kd.C_alloc ?_ _)|(with_reducible refine Kd.C_drewN ?_ _)|(with_reducible refine Kd.C_drew ?_)))
    (case side4 => exact HC0_1.out)
    rintro e w39 ⟨v509,v512,rfl,ho0,ho1,hb⟩
    refine ⟨_,rfl,?_⟩
    have n0_:=Am (Kd.R_elder' (by (with_reducible repeat (first|apply Kd.R_alloc|apply Kd.R_drewN|apply Kd.R_drew));exact HO484.out) (Kd.R_base ho0) hb)
    have n1_:=Am (Kd.R_elder' (by (with_reducible repeat (first|apply Kd.R_alloc|apply Kd.R_drewN|apply Kd.R_drew));exact HO487.out) (Kd.R_base ho1) hb)
    have n2_:=Am (Kd.R_below (by (with_reducible repeat (first|apply Kd.R_alloc|apply Kd.R_drewN|apply Kd.R_drew));exact HO493.out) hb)
    have n3_:=Am (Kd.R_elder' (by (with_reducible repeat (first|apply Kd.R_alloc|apply Kd.R_drewN|apply Kd.R_drew));exact HO496.out) (Kd.R_base ho0) hb)
    have n4_:=Am (Kd.R_elder' (by (with_reducible repeat (first|apply Kd.R_alloc|apply Kd.R_drewN|apply Kd.R_drew));exact HO499.out) (Kd.R_base ho1) hb)
    have n5_:=Am (Kd.R_below (by (with_reducible repeat (first|apply Kd.R_alloc|apply Kd.R_drewN|apply Kd.R_drew));exact HO506.out) hb)
    have n6_:=Am (Kd.R_lower (Kd.R_new' (Kd.R_new' ho0 (Kd.R_lt (by (with_reducible repeat (first|apply Kd.R_alloc|apply Kd.R_drewN|apply Kd.R_drew));exact HO484.out))) (Kd.R_lt (by (with_reducible repeat (first|apply Kd.R_alloc|apply Kd.R_drewN|apply Kd.R_drew));exact HO496.out))) (below_size (by repeat (first|(with_reducible first|exact HB.out|apply bA|apply bN|apply bD|refine bS ?_ GE480.out|refine bS ?_ GE503.out)|exact HB.out))))
    have n7_:=Am (Kd.R_lower (Kd.R_new' (Kd.R_new' ho1 (Kd.R_lt (by (with_reducible repeat (first|apply Kd.R_alloc|apply Kd.R_drewN|apply Kd.R_drew));exact HO487.out))) (Kd.R_lt (by (with_reducible repeat (first|apply Kd.R_alloc|apply Kd.R_drewN|apply Kd.R_drew));exact HO499.out))) (below_size (by repeat (first|(with_reducible first|exact HB.out|apply bA|apply bN|apply bD|refine bS ?_ GE480.out|refine bS ?_ GE503.out)|exact HB.out))))
    have n8_:=Am (blk_below (g:=gb480) (o:=.cells #[.slice A0_0 l0_0.length c0_0,.slice A0_1 l0_1.length c0_1,.int .i64 a0_2,.int .i64 a0_3,.int .i64 a0_4] 25 (0,0)) (by (with_reducible repeat (first|refine kN ?_ _|refine kD ?_|refine kA ?_ _));exact BK480.out) hb)
    have n9_:=Am (blk_below (g:=gb503) (o:=.cells #[.slice Ao30 t494.length co30,.slice Ao33 t497.length co33,.int .i64 t500,.int .i64 t501,.int .i64 t502] 31 (0,0)) (by (with_reducible repeat (first|refine kN ?_ _|refine kD ?_|refine kA ?_ _));exact BK503.out) hb)
    have n10_:=Am (below_step (by repeat (first|(with_reducible first|exact HB.out|apply bA|apply bN|apply bD|refine bS ?_ GE480.out|refine bS ?_ GE503.out)|exact HB.out)) hb)
    clear HO484
    clear HO487
    clear HO493
    clear HO496
    clear HO499
    clear HO506
    clear BK480
    clear BK503
    clear HB
    have HO484:=n0_
    have HO487:=n1_
    have HO493:=n2_
    have HO496:=n3_
    have HO499:=n4_
    have HO506:=n5_
    have HO510:=n6_
    have HO513:=n7_
    have BK480:=n8_
    have BK503:=n9_
    have HB:=n10_
    clear n0_ n1_ n2_ n3_ n4_ n5_ n6_ n7_ n8_ n9_ n10_
    (try clear hb)
    (try clear hb2)
    (try clear hk)
    (try clear hi)
    (try clear ho0)
    (try clear ho1)
    obtain ⟨Ao40,co40,eo40⟩:=Kd.R_slice HO510.out
    (first|subst eo40|(injection eo40 with f1_ f2_ f3_;have f4_:=f1_.symm;have f5_:=f3_.symm;clear f1_ f2_ f3_;subst f4_;subst f5_))
    obtain ⟨Ao41,co41,eo41⟩:=Kd.R_slice HO513.out
    (first|subst eo41|(injection eo41 with f1_ f2_ f3_;have f4_:=f1_.symm;have f5_:=f3_.symm;clear f1_ f2_ f3_;subst f4_;subst f5_))
    refine hK.out _ _ ⟨(kC BK503.out 0).trans rfl,(kC BK503.out 1).trans rfl,(kC BK503.out 2).trans rfl,(kC BK503.out 3).trans rfl,(kC BK503.out 4).trans rfl,(kC BK480.out 0).trans rfl,(kC BK480.out 1).trans rfl,(kC BK480.out 2).trans rfl,(kC BK480.out 3).trans rfl,(kC BK480.out 4).trans rfl⟩ (fun hHeld => ?_)
    clear hK K
    refine norm_ (a':=?_) ?_ ?_
    rotate_left
    ·show Act.put _ (some 33) _ = _
     simp only [Act.put,pS]
     rfl
    refine one_ (i:=3) (N:=some 34) #[true,true,true,true,false] rfl rfl (by kernel_rfl) (by decide) (fun K hK => ?_)
    refine goes_ Try.func18 (by kernel_rfl) rfl #[.agg #[.slice Ao30 t494.length co30,.slice Ao33 t497.length co33,.int .i64 t500,.int .i64 t501,.int .i64 t502],.agg #[.slice Ao40 t508.length co40,.slice Ao41 t511.length co41,.int .i64 t514,.int .i64 t515,.int .i64 t516]] (by rfl) rfl rfl (by (try simp only [List.map_toArray,List.map_cons,List.map_nil]);first|done|rfl|(simp only [List.length_drop,List.length_take];rfl)) ?_
    with_reducible refine (laws_eqProfile.calls k _ _ t494 _ _ t497 t500 t501 t502 _ _ t508 _ _ t511 t514 t515 t516 true _ ?side1 ?side2 ?side3 ?side4 ?side5 ?side6 ?side7 ?side8 A15.out).mono ?_
    (case side1 => repeat (first|exact (Kd.R_reads' HO496.out).2.2|(with_reducible refine Kd.C_alloc ?_ _)|(with_reducible refine Kd.C_drewN ?_ _)|(with_reducible refine Kd.C_drew ?_)))
    (case side2 => exact (Kd.R_reads' HO496.out).2.1)
    (case side3 => repeat (first|exact (Kd.R_reads' HO499.out).2.2|(with_reducible refine Kd.C_alloc ?_ _)|(with_reducible refine Kd.C_drewN ?_ _)|(with_reducible refine Kd.C_drew ?_)))
    (case side4 => exact (Kd.R_reads' HO499.out).2.1)
    (case side5 => repeat (first|exact (Kd.R_reads' HO510.out).2.2|(with_reducible refine Kd.C_alloc ?_ _)|(with_reducible refine Kd.C_drewN ?_ _)|(with_reducible refine Kd.C_drew ?_)))
    (case side6 => exact (Kd.R_reads' HO510.out).2.1)
    (case side7 => repeat (first|exact (Kd.R_reads' HO513.out).2.2|(with_reducible refine Kd.C_alloc ?_ _)|(with_reducible refine Kd.C_drewN ?_ _)|(with_reducible refine Kd.C_drew ?_)))
    (case side8 => exact (Kd.R_reads' HO513.out).2.1)
    rintro e w42 ⟨rfl,hb⟩
    refine ⟨_,rfl,?_⟩
    have n0_:=Am (Kd.R_below (by (with_reducible repeat (first|apply Kd.R_alloc|apply Kd.R_drewN|apply Kd.R_drew));exact HO484.out) hb)
    have n1_:=Am (Kd.R_below (by (with_reducible repeat (first|apply Kd.R_alloc|apply Kd.R_drewN|apply Kd.R_drew));exact HO487.out) hb)
    have n2_:=Am (Kd.R_below (by (with_reducible repeat (first|apply Kd.R_alloc|apply Kd.R_drewN|apply Kd.R_drew));exact HO493.out) hb)
    have n3_:=Am (Kd.R_below (by (with_reducible repeat (first|apply Kd.R_alloc|apply Kd.R_drewN|apply Kd.R_drew));exact HO496.out) hb)
    have n4_:=Am (Kd.R_below (by (with_reducible repeat (first|apply Kd.R_alloc|apply Kd.R_drewN|apply Kd.R_drew));exact HO499.out) hb)
    have n5_:=Am (Kd.R_below (by (with_reducible repeat (first|apply Kd.R_alloc|apply Kd.R_drewN|apply Kd.R_drew));exact HO506.out) hb)
    have n6_:=Am (Kd.R_below (by (with_reducible repeat (first|apply Kd.R_alloc|apply Kd.R_drewN|apply Kd.R_drew));exact HO510.out) hb)
    have n7_:=Am (Kd.R_below (by (with_reducible repeat (first|apply Kd.R_alloc|apply Kd.R_drewN|apply Kd.R_drew));exact HO513.out) hb)
    have n8_:=Am (blk_below (g:=gb480) (o:=.cells #[.slice A0_0 l0_0.length c0_0,.slice A0_1 l0_1.length c0_1,.int .i64 a0_2,.int .i64 a0_3,.int .i64 a0_4] 25 (0,0)) (by (with_reducible repeat (first|refine kN ?_ _|refine kD ?_|refine kA ?_ _));exact BK480.out) hb)
    have n9_:=Am (blk_below (g:=gb503) (o:=.cells #[.slice Ao30 t494.length co30,.slice Ao33 t497.length co33,.int .i64 t500,.int .i64 t501,.int .i64 t502] 31 (0,0)) (by (with_reducible repeat (first|refine kN ?_ _|refine kD ?_|refine kA ?_ _));exact BK503.out) hb)
    have n10_:=Am (below_step (by repeat (first|(with_reducible first|exact HB.out|apply bA|apply bN|apply bD|refine bS ?_ GE480.out|refine bS ?_ GE503.out)|exact HB.out)) hb)
    clear HO484
    clear HO487
    clear HO493
    clear HO496
    clear HO499
    clear HO506
    clear HO510
    clear HO513
    clear BK480
    clear BK503
    clear HB
    have HO484:=n0_
    have HO487:=n1_
    have HO493:=n2_
    have HO496:=n3_
    have HO499:=n4_
    have HO506:=n5_
    have HO510:=n6_
    have HO513:=n7_
    have BK480:=n8_
    have BK503:=n9_
    have HB:=n10_
    clear n0_ n1_ n2_ n3_ n4_ n5_ n6_ n7_ n8_ n9_ n10_
    (try clear hb)
    (try clear hb2)
    (try clear hk)
    (try clear hi)
    refine hK.out _ _ ⟨(kC BK503.out 0).trans rfl,(kC BK503.out 1).trans rfl,(kC BK503.out 2).trans rfl,(kC BK503.out 3).trans rfl,(kC BK503.out 4).trans rfl,(kC BK480.out 0).trans rfl,(kC BK480.out 1).trans rfl,(kC BK480.out 2).trans rfl,(kC BK480.out 3).trans rfl,(kC BK480.out 4).trans rfl⟩ (fun hHeld => ?_)
    clear hK K
    refine norm_ (a':=?_) ?_ ?_
    rotate_left
    ·show Act.put _ (some 34) _ = _
     simp only [Act.put,pS]
     rfl
    refine pure_ (i:=4) (N:=some 35) (v:=?_) (a':=?_) #[true,true,true,true,true] rfl rfl (by kernel_rfl) (fun _ _ _ h => h) (Or.inl ⟨by rfl,?_⟩) ?_ ?_
    rotate_left
    ·intro w'
     go_simp
     with_reducible rfl
    rotate_left
    ·simp only [Act.put,pS]
     rfl
    refine done_ (by kernel_rfl) ?_
    have hcz43_0 : w42.cell? ⟨gb503,0,none⟩ = some (.slice Ao30 t494.length co30):=(kC BK503.out 0).trans rfl
    have hcz43_1 : w42.cell? ⟨gb503,1,none⟩ = some (.slice Ao33 t497.length co33):=(kC BK503.out 1).trans rfl
    have hcz43_2 : w42.cell? ⟨gb503,2,none⟩ = some (.int .i64 t500):=(kC BK503.out 2).trans rfl
    have hcz43_3 : w42.cell? ⟨gb503,3,none⟩ = some (.int .i64 t501):=(kC BK503.out 3).trans rfl
    have hcz43_4 : w42.cell? ⟨gb503,4,none⟩ = some (.int .i64 t502):=(kC BK503.out 4).trans rfl
    have hfz43_0:=kF BK503.out 0
    have hfz43_1:=kF BK503.out 1
    have hfz43_2:=kF BK503.out 2
    have hfz43_3:=kF BK503.out 3
    have hfz43_4:=kF BK503.out 4
    go_upto_region 14 with (first|((with_reducible refine gate_callee (f:=41) rfl ?_);refine goesL_ (some 38) rfl rfl Try.func41 (by kernel_rfl) rfl #[.agg #[.slice Ao30 t494.length co30,.slice Ao33 t497.length co33,.int .i64 t500,.int .i64 t501,.int .i64 t502],.int .i64 1] rfl (by (try simp only [List.map_toArray,List.map_cons,List.map_nil]);first|done|rfl|(simp only [List.length_drop,List.length_take];rfl)) ?_;(with_reducible refine (laws_markProfile.calls k (fun k_ => some k_ = (.slice Ao30 t494.length co30 : Value).ownBlock) (.slice Ao30 t494.length co30) t494 (fun k_ => some k_ = (.slice Ao33 t497.length co33 : Value).ownBlock) (.slice Ao33 t497.length co33) t497 t500 t501 t502 1 t518 t519 t520 w _ ?side1 ?side2 ?side3 A17.out).mono ?_);(case side1 => repeat (first|(with_reducible first|exact HB.out|apply bA|apply bN|apply bD|refine bS ?_ GE480.out|refine bS ?_ GE503.out)|exact HB.out));(case side2 => exact Kd.R_tight rfl HO496.out);(case side3 => exact Kd.R_tight rfl HO499.out);rintro e w44 ⟨rfl,hy0,hy1,hb,hkp⟩;refine ⟨_,rfl,?_⟩;have n0_:=Am (blk_kept (by (with_reducible repeat (first|refine kN ?_ _|refine kD ?_|refine kA ?_ _));exact BK480.out) hkp (fun hs_ => Or.elim hs_ (fun e_ => (fun e_ => (Kd.R_ne HO496.out BK480.out (by decide)) e_) e_) (fun e_ => (fun e_ => (Kd.R_ne HO499.out BK480.out (by decide)) e_) e_)));have n1_:=Am (Kd.R_mono (ok':=fun k_ => some k_ ≠ (.slice Ao30 t494.length co30 : Value).ownBlock∧some k_ ≠ (.slice Ao40 t508.length co40 : Value).ownBlock) (Kd.R_keptB ((Kd.R_apart' HO484.out (Kd.R_typed HO499.out) (by decide))) hkp (fun k_ hk_ hs_ => Or.elim hs_ (fun e_ => (hk_.1.1.2) e_) (fun e_ => (hk_.2) e_))) (fun k_ hk_ => ⟨hk_.1.1.1.2,hk_.1.1.2⟩));have n2_:=Am (Kd.R_mono (ok':=fun k_ => some k_ ≠ (.slice Ao33 t497.length co33 : Value).ownBlock∧some k_ ≠ (.slice Ao41 t511.length co41 : Value).ownBlock) (Kd.R_keptB ((Kd.R_apart' HO487.out (Kd.R_typed HO496.out) (by decide))) hkp (fun k_ hk_ hs_ => Or.elim hs_ (fun e_ => (hk_.2) e_) (fun e_ => (hk_.1.1.2) e_))) (fun k_ hk_ => ⟨hk_.1.1.1.2,hk_.1.1.2⟩));have n3_:=Am (Kd.R_mono (ok':=fun k_ => some k_ ≠ (.slice Ao35 t504.length co35 : Value).ownBlock) (Kd.R_keptB ((Kd.R_apart' (Kd.R_apart' HO493.out (Kd.R_typed HO496.out) (by decide)) (Kd.R_typed HO499.out) (by decide))) hkp (fun k_ hk_ hs_ => Or.elim hs_ (fun e_ => (hk_.1.2) e_) (fun e_ => (hk_.2) e_))) (fun k_ hk_ => hk_.1.1.1.2));have n4_:=Am (Kd.R_reok rfl hy0 (fun k_ e_ => HO496.out.1 k_ e_));have n5_:=Am (Kd.R_reok rfl hy1 (fun k_ e_ => HO499.out.1 k_ e_));have n6_:=Am (blk_kept (by (with_reducible repeat (first|refine kN ?_ _|refine kD ?_|refine kA ?_ _));exact BK503.out) hkp (fun hs_ => Or.elim hs_ (fun e_ => (fun e_ => (Kd.R_ne HO496.out BK503.out (by decide)) e_) e_) (fun e_ => (fun e_ => (Kd.R_ne HO499.out BK503.out (by decide)) e_) e_)));have n7_:=Am (Kd.R_mono (ok':=fun k_ => some k_ ≠ (.slice Ao36 t491.length co36 : Value).ownBlock) (Kd.R_keptB ((Kd.R_apart' (Kd.R_apart' HO506.out (Kd.R_typed HO496.out) (by decide)) (Kd.R_typed HO499.out) (by decide))) hkp (fun k_ hk_ hs_ => Or.elim hs_ (fun e_ => (hk_.1.2) e_) (fun e_ => (hk_.2) e_))) (fun k_ hk_ => hk_.1.1.1.2));have n8_:=Am (Kd.R_mono (ok':=fun k_ => some k_ ≠ (.slice Ao24 t482.length co24 : Value).ownBlock∧some k_ ≠ (.slice Ao30 t494.length co30 : Value).ownBlock) (Kd.R_keptB ((Kd.R_apart' HO510.out (Kd.R_typed HO499.out) (by decide))) hkp (fun k_ hk_ hs_ => Or.elim hs_ (fun e_ => (hk_.1.2) e_) (fun e_ => (hk_.2) e_))) (fun k_ hk_ => ⟨hk_.1.1.1.2,hk_.1.1.2⟩));have n9_:=Am (Kd.R_mono (ok':=fun k_ => some k_ ≠ (.slice Ao25 t485.length co25 : Value).ownBlock∧some k_ ≠ (.slice Ao33 t497.length co33 : Value).ownBlock) (Kd.R_keptB ((Kd.R_apart' HO513.out (Kd.R_typed HO496.out) (by decide))) hkp (fun k_ hk_ hs_ => Or.elim hs_ (fun e_ => (hk_.2) e_) (fun e_ => (hk_.1.2) e_))) (fun k_ hk_ => ⟨hk_.1.1.1.2,hk_.1.1.2⟩));have n10_:=Am (hb);clear BK480;clear HO484;clear HO487;clear HO493;clear HO496;clear HO499;clear BK503;clear HO506;clear HO510;clear HO513;clear HB;have BK480:=n0_;have HO484:=n1_;have HO487:=n2_;have HO493:=n3_;have HO496:=n4_;have HO499:=n5_;have BK503:=n6_;have HO506:=n7_;have HO510:=n8_;have HO513:=n9_;have HB:=n10_;clear n0_ n1_ n2_ n3_ n4_ n5_ n6_ n7_ n8_ n9_ n10_;(try clear hb);(try clear hkp);(try clear hy0);(try clear hy1)))
    (try simp only [Act.put,List.setIfInBounds_toArray,List.set_cons_zero,List.set_cons_succ])
    go_cut [46] (fun v46 wc => ∃ (kq : Nat) (x46_17 : Bool),v46 = .bool x46_17∧As (laws_FnExactCurve.j0 kq a1 t491 t504 x46_17 l0_0 l0_1 a0_2 a0_3 a0_4 = some r)∧As (kq ≤ k)∧As (Kd.R k98 98 wc w.heap.size (fun k_ => some k_ ≠ ((.slice Ao35 t504.length co35) : Value).ownBlock) (.slice Ao36 t491.length co36) t491)∧As (Kd.R k98 98 wc w.heap.size (fun k_ => some k_ ≠ ((.slice Ao36 t491.length co36) : Value).ownBlock) (.slice Ao35 t504.length co35) t504)∧As (Kd.R k71 71 wc w.heap.size (fun _ => True) (.slice Ao30 t494.length co30) t519)∧As (Kd.R k75 75 wc w.heap.size (fun _ => True) (.slice Ao33 t497.length co33) t520)∧As (wc.heap[gb480]? = some (.cells #[(.slice A0_0 l0_0.length c0_0),(.slice A0_1 l0_1.length c0_1),.int .i64 a0_2,.int .i64 a0_3,.int .i64 a0_4] 25 (0,0)))∧As (wc.heap[gb503]? = some (.cells #[(.slice Ao30 t494.length co30),(.slice Ao33 t497.length co33),.int .i64 t500,.int .i64 t501,.int .i64 t502] 31 (0,0)))∧As (Below w.heap.size w wc))
    case first =>
     have H:=HC18.out
     clear HC18
     by_cases c45 : t518 < 0
     ·rw [if_pos c45] at H
      have c45b0 : decide (t518 < 0) = true:=decide_eq_true c45
      clear c45
      (first|rw [c45b0]|(simp only [i64_w,i32_w];rw [c45b0])|skip)
      exact absurd H (by rw [hrt.out];apply laws_FnExactCurve.j0_no)
     ·rw [if_neg c45] at H
      have c45b0 : decide (t518 < 0) = false:=decide_eq_false c45
      clear c45
      (first|rw [c45b0]|(simp only [i64_w,i32_w];rw [c45b0])|skip)
      replace H:=Option.bind_eq_some_iff.mp H
      obtain ⟨t521,A460,H⟩:=H
      replace H : (laws_FnExactCurve.j0 k a1 t491 t504 (!t521) l0_0 l0_1 a0_2 a0_3 a0_4) = some r:=H
      have A46:=Am A460
      clear A460
      have H':=Am H
      clear H
      go_wp2_with (first|(go_at_call 40;(with_reducible refine (laws_eqPointS.calls k _ _ t504 _ _ t491 t521 _ ?side1 ?side2 ?side3 ?side4 A46.out).mono ?_);(case side1 => repeat (first|exact (Kd.R_reads' HO506.out).2.2|(with_reducible refine Kd.C_alloc ?_ _)|(with_reducible refine Kd.C_drewN ?_ _)|(with_reducible refine Kd.C_drew ?_)));(case side2 => exact (Kd.R_reads' HO506.out).2.1);(case side3 => repeat (first|exact (Kd.R_reads' HO493.out).2.2|(with_reducible refine Kd.C_alloc ?_ _)|(with_reducible refine Kd.C_drewN ?_ _)|(with_reducible refine Kd.C_drew ?_)));(case side4 => exact (Kd.R_reads' HO493.out).2.1);rintro e w47 ⟨rfl,hb⟩;have n0_:=Am (Kd.R_below (by (with_reducible repeat (first|apply Kd.R_alloc|apply Kd.R_drewN|apply Kd.R_drew));exact HO484.out) hb);have n1_:=Am (Kd.R_below (by (with_reducible repeat (first|apply Kd.R_alloc|apply Kd.R_drewN|apply Kd.R_drew));exact HO487.out) hb);have n2_:=Am (Kd.R_below (by (with_reducible repeat (first|apply Kd.R_alloc|apply Kd.R_drewN|apply Kd.R_drew));exact HO493.out) hb);have n3_:=Am (Kd.R_below (by (with_reducible repeat (first|apply Kd.R_alloc|apply Kd.R_drewN|apply Kd.R_drew));exact HO496.out) hb);have n4_:=Am (Kd.R_below (by (with_reducible repeat (first|apply Kd.R_alloc|apply Kd.R_drewN|apply Kd.R_drew));exact HO499.out) hb);have n5_:=Am (Kd.R_below (by (with_reducible repeat (first|apply Kd.R_alloc|apply Kd.R_drewN|apply Kd.R_drew));exact HO506.out) hb);have n6_:=Am (Kd.R_below (by (with_reducible repeat (first|apply Kd.R_alloc|apply Kd.R_drewN|apply Kd.R_drew));exact HO510.out) hb);have n7_:=Am (Kd.R_below (by (with_reducible repeat (first|apply Kd.R_alloc|apply Kd.R_drewN|apply Kd.R_drew));exact HO513.out) hb);have n8_:=Am (blk_below (g:=gb480) (o:=.cells #[.slice A0_0 l0_0.length c0_0,.slice A0_1 l0_1.length c0_1,.int .i64 a0_2,.int .i64 a0_3,.int .i64 a0_4] 25 (0,0)) (by (with_reducible repeat (first|refine kN ?_ _|refine kD ?_|refine kA ?_ _));exact BK480.out) hb);have n9_:=Am (blk_below (g:=gb503) (o:=.cells #[.slice Ao30 t494.length co30,.slice Ao33 t497.length co33,.int .i64 t500,.int .i64 t501,.int .i64 t502] 31 (0,0)) (by (with_reducible repeat (first|refine kN ?_ _|refine kD ?_|refine kA ?_ _));exact BK503.out) hb);have n10_:=Am (below_step (by repeat (first|(with_reducible first|exact HB.out|apply bA|apply bN|apply bD|refine bS ?_ GE480.out|refine bS ?_ GE503.out)|exact HB.out)) hb);clear HO484;clear HO487;clear HO493;clear HO496;clear HO499;clear HO506;clear HO510;clear HO513;clear BK480;clear BK503;clear HB;have HO484:=n0_;have HO487:=n1_;have HO493:=n2_;have HO496:=n3_;have HO499:=n4_;have HO506:=n5_;have HO510:=n6_;have HO513:=n7_;have BK480:=n8_;have BK503:=n9_;have HB:=n10_;clear n0_ n1_ n2_ n3_ n4_ n5_ n6_ n7_ n8_ n9_ n10_;(try clear hb);(try clear hb2);(try clear hk);(try clear hi)))
      go_meet
      case rel => exact ⟨_,(!t521),(by first|rfl|(simp;done)|(simp [*];done)),H',⟨by first|omega|exact Nat.le_refl _⟩,⟨by (with_reducible repeat (first|apply Kd.R_alloc|apply Kd.R_drewN|apply Kd.R_drew));exact HO493.out⟩,⟨by (with_reducible repeat (first|apply Kd.R_alloc|apply Kd.R_drewN|apply Kd.R_drew));exact HO506.out⟩,⟨by (with_reducible repeat (first|apply Kd.R_alloc|apply Kd.R_drewN|apply Kd.R_drew));exact Kd.R_mono HO496.out (fun _ hk => trivial)⟩,⟨by (with_reducible repeat (first|apply Kd.R_alloc|apply Kd.R_drewN|apply Kd.R_drew));exact Kd.R_mono HO499.out (fun _ hk => trivial)⟩,⟨by (with_reducible repeat (first|refine kN ?_ _|refine kD ?_|refine kA ?_ _));exact BK480.out⟩,⟨by (with_reducible repeat (first|refine kN ?_ _|refine kD ?_|refine kA ?_ _));exact BK503.out⟩,⟨by repeat (first|(with_reducible first|exact HB.out|apply bA|apply bN|apply bD|refine bS ?_ GE480.out|refine bS ?_ GE503.out)|exact HB.out)⟩⟩
    case rest =>
     clear HC18
     try clear c1
     try clear p2
     try clear c3
     try clear c4
     try clear c4b0
     try clear c11
     try clear c13
     try clear c14
     try clear c16
     try clear c18
     try clear c31
     try clear c38
     try clear c39
     try clear c40
     try clear c41
     try clear c45
     try clear c45b0
     try clear hcz20_0
     try clear hcz20_1
     try clear hcz20_2
     try clear hcz20_3
     try clear hcz20_4
     try clear hcz22_0
     try clear hcz22_1
     try clear hcz22_2
     try clear hcz22_3
     try clear hcz22_4
     try clear hcz27_0
     try clear hcz27_1
     try clear hcz27_2
     try clear hcz27_3
     try clear hcz27_4
     try clear hcz32_0
     try clear hcz32_1
     try clear hcz32_2
     try clear hcz32_3
     try clear hcz32_4
     try clear hcz43_0
     try clear hcz43_1
     try clear hcz43_2
     try clear hcz43_3
     try clear hcz43_4
     try clear hcz6_0
     try clear hcz6_1
     try clear hcz6_2
     try clear hcz6_3
     try clear hcz6_4
     try clear hfz20_0
     try clear hfz20_1
     try clear hfz20_2
     try clear hfz20_3
     try clear hfz20_4
     try clear hfz22_0
     try clear hfz22_1
     try clear hfz22_2
     try clear hfz22_3
     try clear hfz22_4
     try clear hfz27_0
     try clear hfz27_1
     try clear hfz27_2
     try clear hfz27_3
     try clear hfz27_4
     try clear hfz32_0
     try clear hfz32_1
     try clear hfz32_2
     try clear hfz32_3
     try clear hfz32_4
     try clear hfz43_0
     try clear hfz43_1
     try clear hfz43_2
     try clear hfz43_3
     try clear hfz43_4
     try clear hfz6_0
     try clear hfz6_1
     try clear hfz6_2
     try clear hfz6_3
     try clear hfz6_4
     obtain ⟨kq,x46_17,rfl,HA,HJ17,HO_6,HO_8,HO_504000,HO_504001,BK480,BK503,HB⟩:=hcut
     have hl504000_17:=(Kd.R_reads' HO_504000.out).1
     rw [hl504000_17] at HO_504000
     (try simp only [hl504000_17])
     (try simp only [hl504000_17] at BK480)
     (try simp only [hl504000_17] at BK503)
     (try simp only [hl504000_17] at HO_6)
     (try simp only [hl504000_17] at HO_8)
     (try simp only [hl504000_17] at HO_504001)
     have hl504001_17:=(Kd.R_reads' HO_504001.out).1
     rw [hl504001_17] at HO_504001
     (try simp only [hl504001_17])
     (try simp only [hl504001_17] at BK480)
     (try simp only [hl504001_17] at BK503)
     (try simp only [hl504001_17] at HO_6)
     (try simp only [hl504001_17] at HO_8)
     (try simp only [hl504001_17] at HO_504000)
     cases kq with
     | zero => exact absurd HA.out (by simp [laws_FnExactCurve.j0])
     | succ kj17 =>
      have H:=HA.out
      clear HA
      simp only [laws_FnExactCurve.j0] at H
      by_cases c48 : x46_17 = true
      ·subst c48
       have H1 : (some false) = some r:=by rw [if_pos rfl] at H;exact H
       clear H
       have H:=H1
       clear H1
       exact absurd H (by rw [hrt.out];simp)
      ·replace c48:=Bool.eq_false_iff.mpr c48
       subst c48
       have H1 : ((laws_markPointS.f kj17 t504 1).bind fun bt522 => ((laws_heldPointS.f kj17 bt522.2 1).bind fun t524 => (if t524 < 0 then (some false) else (if t524 = bt522.1 then ((laws_toProfile.f kj17 l0_0 l0_1 a0_2 a0_3 a0_4).bind fun bt525 => ((impl_Curve.f kj17 bt525.1 bt525.2.1 bt525.2.2.1 bt525.2.2.2.1 bt525.2.2.2.2 a1).bind fun t534 => ((laws_eqPointS.f kj17 t534 t491).bind fun t537 => (if t537 = true then ((laws_heldPointS.f kj17 bt522.2 1).bind fun t538 => (if t538 < 0 then (some false) else (if t538 = bt522.1 then (some true) else (some false)))) else (some false))))) else (some false))))) = some r:=by rw [if_neg (show ¬ (false = true) by decide)] at H;exact H
       clear H
       have H:=H1
       clear H1
       replace H:=Option.bind_eq_some_iff.mp H
       obtain ⟨⟨t522,t523⟩,A490,H⟩:=H
       replace H : ((laws_heldPointS.f kj17 t523 1).bind fun t524 => (if t524 < 0 then (some false) else (if t524 = t522 then ((laws_toProfile.f kj17 l0_0 l0_1 a0_2 a0_3 a0_4).bind fun bt525 => ((impl_Curve.f kj17 bt525.1 bt525.2.1 bt525.2.2.1 bt525.2.2.2.1 bt525.2.2.2.2 a1).bind fun t534 => ((laws_eqPointS.f kj17 t534 t491).bind fun t537 => (if t537 = true then ((laws_heldPointS.f kj17 t523 1).bind fun t538 => (if t538 < 0 then (some false) else (if t538 = t522 then (some true) else (some false)))) else (some false))))) else (some false)))) = some r:=H
       have A49:=Am A490
       clear A490
       replace H:=Option.bind_eq_some_iff.mp H
       obtain ⟨t524,A500,H⟩:=H
       replace H : (if t524 < 0 then (some false) else (if t524 = t522 then ((laws_toProfile.f kj17 l0_0 l0_1 a0_2 a0_3 a0_4).bind fun bt525 => ((impl_Curve.f kj17 bt525.1 bt525.2.1 bt525.2.2.1 bt525.2.2.2.1 bt525.2.2.2.2 a1).bind fun t534 => ((laws_eqPointS.f kj17 t534 t491).bind fun t537 => (if t537 = true then ((laws_heldPointS.f kj17 t523 1).bind fun t538 => (if t538 < 0 then (some false) else (if t538 = t522 then (some true) else (some false)))) else (some false))))) else (some false))) = some r:=H
       have A50:=Am A500
       clear A500
       by_cases c51 : t524 < 0
       ·rw [if_pos c51] at H
        have c51b0 : decide (t524 < 0) = true:=decide_eq_true c51
        clear c51
        exact absurd H (by rw [hrt.out];simp)
       ·rw [if_neg c51] at H
        have c51b0 : decide (t524 < 0) = false:=decide_eq_false c51
        clear c51
        by_cases c52 : t524 = t522
        ·rw [if_pos c52] at H
         have c52b0 : (t524 == t522) = true:=beq_iff_eq.mpr c52
         have c52b1 : (t524 != t522) = false:=bne_eq_false_iff_eq.mpr c52
         clear c52
         replace H:=Option.bind_eq_some_iff.mp H
         obtain ⟨⟨t525,t528,t531,t532,t533⟩,A530,H⟩:=H
         replace H : ((impl_Curve.f kj17 t525 t528 t531 t532 t533 a1).bind fun t534 => ((laws_eqPointS.f kj17 t534 t491).bind fun t537 => (if t537 = true then ((laws_heldPointS.f kj17 t523 1).bind fun t538 => (if t538 < 0 then (some false) else (if t538 = t522 then (some true) else (some false)))) else (some false)))) = some r:=H
         have A53:=Am A530
         clear A530
         replace H:=Option.bind_eq_some_iff.mp H
         obtain ⟨t534,A540,H⟩:=H
         replace H : ((laws_eqPointS.f kj17 t534 t491).bind fun t537 => (if t537 = true then ((laws_heldPointS.f kj17 t523 1).bind fun t538 => (if t538 < 0 then (some false) else (if t538 = t522 then (some true) else (some false)))) else (some false))) = some r:=H
         have A54:=Am A540
         clear A540
         replace H:=Option.bind_eq_some_iff.mp H
         obtain ⟨t537,A550,H⟩:=H
         replace H : (if t537 = true then ((laws_heldPointS.f kj17 t523 1).bind fun t538 => (if t538 < 0 then (some false) else (if t538 = t522 then (some true) else (some false)))) else (some false)) = some r:=H
         have A55:=Am A550
         clear A550
         by_cases c56 : t537 = true
         ·subst c56
          have H1 : ((laws_heldPointS.f kj17 t523 1).bind fun t538 => (if t538 < 0 then (some false) else (if t538 = t522 then (some true) else (some false)))) = some r:=by rw [if_pos rfl] at H;exact H
          clear H
          have H:=H1
          clear H1
          replace H:=Option.bind_eq_some_iff.mp H
          obtain ⟨t538,A570,H⟩:=H
          replace H : (if t538 < 0 then (some false) else (if t538 = t522 then (some true) else (some false))) = some r:=H
          have A57:=Am A570
          clear A570
          by_cases c58 : t538 < 0
          ·rw [if_pos c58] at H
           have c58b0 : decide (t538 < 0) = true:=decide_eq_true c58
           clear c58
           exact absurd H (by rw [hrt.out];simp)
          ·rw [if_neg c58] at H
           have c58b0 : decide (t538 < 0) = false:=decide_eq_false c58
           clear c58
           by_cases c59 : t538 = t522
           ·rw [if_pos c59] at H
            have c59b0 : (t538 == t522) = true:=beq_iff_eq.mpr c59
            have c59b1 : (t538 != t522) = false:=bne_eq_false_iff_eq.mpr c59
            clear c59
            obtain rfl:=Option.some.inj H
            go_wp2_with (first|((with_reducible refine gate_callee (f:=42) rfl ?_);refine goesL_ (some 49) rfl rfl Try.func42 (by kernel_rfl) rfl #[.slice Ao35 t504.length co35,.int .i64 1] rfl (by (try simp only [List.map_toArray,List.map_cons,List.map_nil]);first|done|rfl|(simp only [List.length_drop,List.length_take];rfl)) ?_;(with_reducible refine (laws_markPointS.calls kj17 (fun k_ => some k_ = (.slice Ao35 t504.length co35 : Value).ownBlock) (.slice Ao35 t504.length co35) t504 1 t522 t523 w _ ?side1 ?side2 A49.out).mono ?_);(case side1 => repeat (first|(with_reducible first|exact HB.out|apply bA|apply bN|apply bD|refine bS ?_ GE480.out|refine bS ?_ GE503.out)|exact HB.out));(case side2 => exact Kd.R_tight rfl HO_8.out);rintro e w60 ⟨rfl,hy0,hb,hkp⟩;refine ⟨_,rfl,?_⟩;have n0_:=Am (Kd.R_mono (ok':=fun k_ => some k_ ≠ (.slice Ao35 t504.length co35 : Value).ownBlock) (Kd.R_keptB (HO_6.out) hkp (fun k_ hk_ hs_ => (hk_) hs_)) (fun k_ hk_ => hk_.1));have n1_:=Am (Kd.R_reok rfl hy0 (fun k_ e_ => HO_8.out.1 k_ e_));have n2_:=Am (Kd.R_mono (ok':=fun k_ => True) (Kd.R_keptB ((Kd.R_apart' HO_504000.out (Kd.R_typed HO_8.out) (by decide))) hkp (fun k_ hk_ hs_ => (hk_.2) hs_)) (fun k_ hk_ => trivial));have n3_:=Am (Kd.R_mono (ok':=fun k_ => True) (Kd.R_keptB ((Kd.R_apart' HO_504001.out (Kd.R_typed HO_8.out) (by decide))) hkp (fun k_ hk_ hs_ => (hk_.2) hs_)) (fun k_ hk_ => trivial));have n4_:=Am (blk_kept (by (with_reducible repeat (first|refine kN ?_ _|refine kD ?_|refine kA ?_ _));exact BK480.out) hkp (fun hs_ => (fun e_ => (Kd.R_ne HO_8.out BK480.out (by decide)) e_) hs_));have n5_:=Am (blk_kept (by (with_reducible repeat (first|refine kN ?_ _|refine kD ?_|refine kA ?_ _));exact BK503.out) hkp (fun hs_ => (fun e_ => (Kd.R_ne HO_8.out BK503.out (by decide)) e_) hs_));have n6_:=Am (hb);clear HO_6;clear HO_8;clear HO_504000;clear HO_504001;clear BK480;clear BK503;clear HB;have HO_6:=n0_;have HO_8:=n1_;have HO_504000:=n2_;have HO_504001:=n3_;have BK480:=n4_;have BK503:=n5_;have HB:=n6_;clear n0_ n1_ n2_ n3_ n4_ n5_ n6_;(try clear hb);(try clear hkp);(try clear hy0))|((with_reducible refine gate_callee (f:=43) rfl ?_);refine goesL_ (some 52) rfl rfl Try.func43 (by kernel_rfl) rfl #[.slice Ao35 t523.length co35,.int .i64 1] rfl (by (try simp only [List.map_toArray,List.map_cons,List.map_nil]);first|done|(rw [show t523.length = t504.length from (Kd.R_reads' HO_8.out).1.symm] <;> rfl)|rfl|(simp only [List.length_drop,List.length_take];rfl)) ?_;(with_reducible refine (laws_heldPointS.calls kj17 _ _ t523 1 t524 _ ?side1 ?side2 A50.out).mono ?_);(case side1 => repeat (first|exact (Kd.R_reads' HO_8.out).2.2|(with_reducible refine Kd.C_alloc ?_ _)|(with_reducible refine Kd.C_drewN ?_ _)|(with_reducible refine Kd.C_drew ?_)));(case side2 => rw [show t523.length = t504.length from (Kd.R_reads' HO_8.out).1.symm];exact (Kd.R_reads' HO_8.out).2.1);rintro e w' ⟨rfl,⟨nd,rfl⟩⟩;refine ⟨_,rfl,?_⟩;have hnb61:=NB480_503.out;have hnc61:=NB503_480.out;have hcz62_0 : w60.cell? ⟨gb480,0,none⟩ = some (.slice A0_0 l0_0.length c0_0):=(kC BK480.out 0).trans rfl;have hcz62_1 : w60.cell? ⟨gb480,1,none⟩ = some (.slice A0_1 l0_1.length c0_1):=(kC BK480.out 1).trans rfl;have hcz62_2 : w60.cell? ⟨gb480,2,none⟩ = some (.int .i64 a0_2):=(kC BK480.out 2).trans rfl;have hcz62_3 : w60.cell? ⟨gb480,3,none⟩ = some (.int .i64 a0_3):=(kC BK480.out 3).trans rfl;have hcz62_4 : w60.cell? ⟨gb480,4,none⟩ = some (.int .i64 a0_4):=(kC BK480.out 4).trans rfl;have hfz62_0:=kF BK480.out 0;have hfz62_1:=kF BK480.out 1;have hfz62_2:=kF BK480.out 2;have hfz62_3:=kF BK480.out 3;have hfz62_4:=kF BK480.out 4)|((with_reducible refine gate_callee (f:=16) rfl ?_);refine goesL_ (some 59) rfl rfl Try.func16 (by kernel_rfl) rfl #[.agg #[.slice A0_0 l0_0.length c0_0,.slice A0_1 l0_1.length c0_1,.int .i64 a0_2,.int .i64 a0_3,.int .i64 a0_4]] rfl (by (try simp only [List.map_toArray,List.map_cons,List.map_nil]);first|done|rfl|(simp only [List.length_drop,List.length_take];rfl)) ?_;(with_reducible refine (laws_toProfile.calls kj17 _ _ l0_0 _ _ l0_1 a0_2 a0_3 a0_4 t525 t528 t531 t532 t533 _ ?side1 ?side2 ?side3 ?side4 A53.out).mono ?_);(case side1 => repeat (first|exact (Kd.C_below HR0_0.out (by repeat (first|(with_reducible first|exact HB.out|apply bA|apply bN|apply bD|refine bS ?_ GE480.out|refine bS ?_ GE503.out)|exact HB.out)))|(with_reducible refine Kd.C_alloc ?_ _)|(with_reducible refine Kd.C_drewN ?_ _)|(with_reducible refine Kd.C_drew ?_)));(case side2 => exact HC0_0.out);(case side3 => repeat (first|exact (Kd.C_below HR0_1.out (by repeat (first|(with_reducible first|exact HB.out|apply bA|apply bN|apply bD|refine bS ?_ GE480.out|refine bS ?_ GE503.out)|exact HB.out)))|(with_reducible refine Kd.C_alloc ?_ _)|(with_reducible refine Kd.C_drewN ?_ _)|(with_reducible refine Kd.C_drew ?_)));(case side4 => exact HC0_1.out);rintro e w63 ⟨v526,v529,rfl,ho0,ho1,hb⟩;refine ⟨_,rfl,?_⟩;have n0_:=Am (Kd.R_below (by (with_reducible repeat (first|apply Kd.R_alloc|apply Kd.R_drewN|apply Kd.R_drew));exact HO_6.out) hb);have n1_:=Am (Kd.R_below (by (with_reducible repeat (first|apply Kd.R_alloc|apply Kd.R_drewN|apply Kd.R_drew));exact HO_8.out) hb);have n2_:=Am (Kd.R_elder' (by (with_reducible repeat (first|apply Kd.R_alloc|apply Kd.R_drewN|apply Kd.R_drew));exact HO_504000.out) (Kd.R_base ho0) hb);have n3_:=Am (Kd.R_elder' (by (with_reducible repeat (first|apply Kd.R_alloc|apply Kd.R_drewN|apply Kd.R_drew));exact HO_504001.out) (Kd.R_base ho1) hb);have n4_:=Am (Kd.R_lower (Kd.R_new' ho0 (Kd.R_lt (by (with_reducible repeat (first|apply Kd.R_alloc|apply Kd.R_drewN|apply Kd.R_drew));exact HO_504000.out))) (below_size (by repeat (first|(with_reducible first|exact HB.out|apply bA|apply bN|apply bD|refine bS ?_ GE480.out|refine bS ?_ GE503.out)|exact HB.out))));have n5_:=Am (Kd.R_lower (Kd.R_new' ho1 (Kd.R_lt (by (with_reducible repeat (first|apply Kd.R_alloc|apply Kd.R_drewN|apply Kd.R_drew));exact HO_504001.out))) (below_size (by repeat (first|(with_reducible first|exact HB.out|apply bA|apply bN|apply bD|refine bS ?_ GE480.out|refine bS ?_ GE503.out)|exact HB.out))));have n6_:=Am (blk_below (g:=gb480) (o:=.cells #[.slice A0_0 l0_0.length c0_0,.slice A0_1 l0_1.length c0_1,.int .i64 a0_2,.int .i64 a0_3,.int .i64 a0_4] 25 (0,0)) (by (with_reducible repeat (first|refine kN ?_ _|refine kD ?_|refine kA ?_ _));exact BK480.out) hb);have n7_:=Am (blk_below (g:=gb503) (o:=.cells #[.slice Ao30 t519.length co30,.slice Ao33 t520.length co33,.int .i64 t500,.int .i64 t501,.int .i64 t502] 31 (0,0)) (by (with_reducible repeat (first|refine kN ?_ _|refine kD ?_|refine kA ?_ _));exact BK503.out) hb);have n8_:=Am (below_step (by repeat (first|(with_reducible first|exact HB.out|apply bA|apply bN|apply bD|refine bS ?_ GE480.out|refine bS ?_ GE503.out)|exact HB.out)) hb);clear HO_6;clear HO_8;clear HO_504000;clear HO_504001;clear BK480;clear BK503;clear HB;have HO_6:=n0_;have HO_8:=n1_;have HO_504000:=n2_;have HO_504001:=n3_;have HO527:=n4_;have HO530:=n5_;have BK480:=n6_;have BK503:=n7_;have HB:=n8_;clear n0_ n1_ n2_ n3_ n4_ n5_ n6_ n7_ n8_;(try clear hb);(try clear hb2);(try clear hk);(try clear hi);(try clear ho0);(try clear ho1);obtain ⟨Ao64,co64,eo64⟩:=Kd.R_slice HO527.out;subst eo64;obtain ⟨Ao65,co65,eo65⟩:=Kd.R_slice HO530.out;subst eo65)|((with_reducible refine gate_callee (f:=39) rfl ?_);refine goesL_ (some 61) rfl rfl Try.func39 (by kernel_rfl) rfl #[.agg #[.slice Ao64 t525.length co64,.slice Ao65 t528.length co65,.int .i64 t531,.int .i64 t532,.int .i64 t533],.int .i64 a1] rfl (by (try simp only [List.map_toArray,List.map_cons,List.map_nil]);first|done|rfl|(simp only [List.length_drop,List.length_take];rfl)) ?_;(with_reducible refine (impl_Curve.calls kj17 _ _ t525 _ _ t528 t531 t532 t533 a1 t534 _ ?side1 ?side2 ?side3 ?side4 A54.out).mono ?_);(case side1 => repeat (first|exact (Kd.R_reads' HO527.out).2.2|(with_reducible refine Kd.C_alloc ?_ _)|(with_reducible refine Kd.C_drewN ?_ _)|(with_reducible refine Kd.C_drew ?_)));(case side2 => exact (Kd.R_reads' HO527.out).2.1);(case side3 => repeat (first|exact (Kd.R_reads' HO530.out).2.2|(with_reducible refine Kd.C_alloc ?_ _)|(with_reducible refine Kd.C_drewN ?_ _)|(with_reducible refine Kd.C_drew ?_)));(case side4 => exact (Kd.R_reads' HO530.out).2.1);rintro e w66 ⟨v535,rfl,ho0,hb⟩;refine ⟨_,rfl,?_⟩;have n0_:=Am (Kd.R_elder' (by (with_reducible repeat (first|apply Kd.R_alloc|apply Kd.R_drewN|apply Kd.R_drew));exact HO_6.out) (Kd.R_base ho0) hb);have n1_:=Am (Kd.R_elder' (by (with_reducible repeat (first|apply Kd.R_alloc|apply Kd.R_drewN|apply Kd.R_drew));exact HO_8.out) (Kd.R_base ho0) hb);have n2_:=Am (Kd.R_below (by (with_reducible repeat (first|apply Kd.R_alloc|apply Kd.R_drewN|apply Kd.R_drew));exact HO_504000.out) hb);have n3_:=Am (Kd.R_below (by (with_reducible repeat (first|apply Kd.R_alloc|apply Kd.R_drewN|apply Kd.R_drew));exact HO_504001.out) hb);have n4_:=Am (Kd.R_below (by (with_reducible repeat (first|apply Kd.R_alloc|apply Kd.R_drewN|apply Kd.R_drew));exact HO527.out) hb);have n5_:=Am (Kd.R_below (by (with_reducible repeat (first|apply Kd.R_alloc|apply Kd.R_drewN|apply Kd.R_drew));exact HO530.out) hb);have n6_:=Am (Kd.R_lower (Kd.R_new' (Kd.R_new' ho0 (Kd.R_lt (by (with_reducible repeat (first|apply Kd.R_alloc|apply Kd.R_drewN|apply Kd.R_drew));exact HO_6.out))) (Kd.R_lt (by (with_reducible repeat (first|apply Kd.R_alloc|apply Kd.R_drewN|apply Kd.R_drew));exact HO_8.out))) (below_size (by repeat (first|(with_reducible first|exact HB.out|apply bA|apply bN|apply bD|refine bS ?_ GE480.out|refine bS ?_ GE503.out)|exact HB.out))));have n7_:=Am (blk_below (g:=gb480) (o:=.cells #[.slice A0_0 l0_0.length c0_0,.slice A0_1 l0_1.length c0_1,.int .i64 a0_2,.int .i64 a0_3,.int .i64 a0_4] 25 (0,0)) (by (with_reducible repeat (first|refine kN ?_ _|refine kD ?_|refine kA ?_ _));exact BK480.out) hb);have n8_:=Am (blk_below (g:=gb503) (o:=.cells #[.slice Ao30 t519.length co30,.slice Ao33 t520.length co33,.int .i64 t500,.int .i64 t501,.int .i64 t502] 31 (0,0)) (by (with_reducible repeat (first|refine kN ?_ _|refine kD ?_|refine kA ?_ _));exact BK503.out) hb);have n9_:=Am (below_step (by repeat (first|(with_reducible first|exact HB.out|apply bA|apply bN|apply bD|refine bS ?_ GE480.out|refine bS ?_ GE503.out)|exact HB.out)) hb);clear HO_6;clear HO_8;clear HO_504000;clear HO_504001;clear HO527;clear HO530;clear BK480;clear BK503;clear HB;have HO_6:=n0_;have HO_8:=n1_;have HO_504000:=n2_;have HO_504001:=n3_;have HO527:=n4_;have HO530:=n5_;have HO536:=n6_;have BK480:=n7_;have BK503:=n8_;have HB:=n9_;clear n0_ n1_ n2_ n3_ n4_ n5_ n6_ n7_ n8_ n9_;(try clear hb);(try clear hb2);(try clear hk);(try clear hi);(try clear ho0);obtain ⟨Ao67,co67,eo67⟩:=Kd.R_slice HO536.out;subst eo67)|((with_reducible refine gate_callee (f:=40) rfl ?_);refine goesL_ (some 64) rfl rfl Try.func40 (by kernel_rfl) rfl #[.slice Ao67 t534.length co67,.slice Ao36 t491.length co36] rfl (by (try simp only [List.map_toArray,List.map_cons,List.map_nil]);first|done|rfl|(simp only [List.length_drop,List.length_take];rfl)) ?_;(with_reducible refine (laws_eqPointS.calls kj17 _ _ t534 _ _ t491 true _ ?side1 ?side2 ?side3 ?side4 A55.out).mono ?_);(case side1 => repeat (first|exact (Kd.R_reads' HO536.out).2.2|(with_reducible refine Kd.C_alloc ?_ _)|(with_reducible refine Kd.C_drewN ?_ _)|(with_reducible refine Kd.C_drew ?_)));(case side2 => exact (Kd.R_reads' HO536.out).2.1);(case side3 => repeat (first|exact (Kd.R_reads' HO_6.out).2.2|(with_reducible refine Kd.C_alloc ?_ _)|(with_reducible refine Kd.C_drewN ?_ _)|(with_reducible refine Kd.C_drew ?_)));(case side4 => exact (Kd.R_reads' HO_6.out).2.1);rintro e w68 ⟨rfl,hb⟩;refine ⟨_,rfl,?_⟩;have n0_:=Am (Kd.R_below (by (with_reducible repeat (first|apply Kd.R_alloc|apply Kd.R_drewN|apply Kd.R_drew));exact HO_6.out) hb);have n1_:=Am (Kd.R_below (by (with_reducible repeat (first|apply Kd.R_alloc|apply Kd.R_drewN|apply Kd.R_drew));exact HO_8.out) hb);have n2_:=Am (Kd.R_below (by (with_reducible repeat (first|apply Kd.R_alloc|apply Kd.R_drewN|apply Kd.R_drew));exact HO_504000.out) hb);have n3_:=Am (Kd.R_below (by (with_reducible repeat (first|apply Kd.R_alloc|apply Kd.R_drewN|apply Kd.R_drew));exact HO_504001.out) hb);have n4_:=Am (Kd.R_below (by (with_reducible repeat (first|apply Kd.R_alloc|apply Kd.R_drewN|apply Kd.R_drew));exact HO527.out) hb);have n5_:=Am (Kd.R_below (by (with_reducible repeat (first|apply Kd.R_alloc|apply Kd.R_drewN|apply Kd.R_drew));exact HO530.out) hb);have n6_:=Am (Kd.R_below (by (with_reducible repeat (first|apply Kd.R_alloc|apply Kd.R_drewN|apply Kd.R_drew));exact HO536.out) hb);have n7_:=Am (blk_below (g:=gb480) (o:=.cells #[.slice A0_0 l0_0.length c0_0,.slice A0_1 l0_1.length c0_1,.int .i64 a0_2,.int .i64 a0_3,.int .i64 a0_4] 25 (0,0)) (by (with_reducible repeat (first|refine kN ?_ _|refine kD ?_|refine kA ?_ _));exact BK480.out) hb);have n8_:=Am (blk_below (g:=gb503) (o:=.cells #[.slice Ao30 t519.length co30,.slice Ao33 t520.length co33,.int .i64 t500,.int .i64 t501,.int .i64 t502] 31 (0,0)) (by (with_reducible repeat (first|refine kN ?_ _|refine kD ?_|refine kA ?_ _));exact BK503.out) hb);have n9_:=Am (below_step (by repeat (first|(with_reducible first|exact HB.out|apply bA|apply bN|apply bD|refine bS ?_ GE480.out|refine bS ?_ GE503.out)|exact HB.out)) hb);clear HO_6;clear HO_8;clear HO_504000;clear HO_504001;clear HO527;clear HO530;clear HO536;clear BK480;clear BK503;clear HB;have HO_6:=n0_;have HO_8:=n1_;have HO_504000:=n2_;have HO_504001:=n3_;have HO527:=n4_;have HO530:=n5_;have HO536:=n6_;have BK480:=n7_;have BK503:=n8_;have HB:=n9_;clear n0_ n1_ n2_ n3_ n4_ n5_ n6_ n7_ n8_ n9_;(try clear hb);(try clear hb2);(try clear hk);(try clear hi))|((with_reducible refine gate_callee (f:=43) rfl ?_);refine goesL_ (some 68) rfl rfl Try.func43 (by kernel_rfl) rfl #[.slice Ao35 t523.length co35,.int .i64 1] rfl (by (try simp only [List.map_toArray,List.map_cons,List.map_nil]);first|done|(rw [show t523.length = t504.length from (Kd.R_reads' HO_8.out).1.symm] <;> rfl)|rfl|(simp only [List.length_drop,List.length_take];rfl)) ?_;(with_reducible refine (laws_heldPointS.calls kj17 _ _ t523 1 t538 _ ?side1 ?side2 A57.out).mono ?_);(case side1 => repeat (first|exact (Kd.R_reads' HO_8.out).2.2|(with_reducible refine Kd.C_alloc ?_ _)|(with_reducible refine Kd.C_drewN ?_ _)|(with_reducible refine Kd.C_drew ?_)));(case side2 => rw [show t523.length = t504.length from (Kd.R_reads' HO_8.out).1.symm];exact (Kd.R_reads' HO_8.out).2.1);rintro e w' ⟨rfl,⟨nd,rfl⟩⟩;refine ⟨_,rfl,?_⟩))
            go_ret
            exact ⟨by first|rfl|(simp [errW_none,errW_some] <;> rfl)|(simp [*,errW_none,errW_some] <;> rfl),by repeat (first|(with_reducible first|exact HB.out|apply bA|apply bN|apply bD|refine bS ?_ GE480.out|refine bS ?_ GE503.out)|exact HB.out)⟩
           ·rw [if_neg c59] at H
            have c59b0 : (t538 == t522) = false:=beq_eq_false_iff_ne.mpr c59
            have c59b1 : (t538 != t522) = true:=bne_iff_ne.mpr c59
            exact absurd H (by rw [hrt.out];simp)
         ·replace c56:=Bool.eq_false_iff.mpr c56
          subst c56
          have H1 : (some false) = some r:=by rw [if_neg (show ¬ (false = true) by decide)] at H;exact H
          clear H
          have H:=H1
          clear H1
          exact absurd H (by rw [hrt.out];simp)
        ·rw [if_neg c52] at H
         have c52b0 : (t524 == t522) = false:=beq_eq_false_iff_ne.mpr c52
         have c52b1 : (t524 != t522) = true:=bne_iff_ne.mpr c52
         exact absurd H (by rw [hrt.out];simp)
   ·replace c16:=Bool.eq_false_iff.mpr c16
    subst c16
    have H1 : (some false) = some r:=by rw [if_neg (show ¬ (false = true) by decide)] at H;exact H
    clear H
    have H:=H1
    clear H1
    exact absurd H (by rw [hrt.out];simp)
  ·replace c13:=Bool.eq_false_iff.mpr c13
   subst c13
   have H1 : (some false) = some r:=by rw [if_neg (show ¬ (false = true) by decide)] at H;exact H
   clear H
   have H:=H1
   clear H1
   exact absurd H (by rw [hrt.out];simp)

end Go.Proofs.Ytgakkndbcilclaa.PA
