-- Written by a program of this session (wip/print/myprint.py) over the kit's print, with contracts of its own; not a text of print.sh's.
import Derived.Test.YtgakkndbcilclaaPAx0
import Derived.Test.YtgakkndbcilclaaPAx1
import Derived.Test.YtgakkndbcilclaaPAx3
import Derived.Test.YtgakkndbcilclaaPAx7
import Derived.Test.YtgakkndbcilclaaPAx10
namespace Go.Proofs.Ytgakkndbcilclaa.PA
open Go.RowKit Go.Proofs.YtgakkndbcilclaaW.PrintWords Go.Proofs.YtgakkndbcilclaaW.PrintLast Go.Proofs.YtgakkndbcilclaaW.PrintMore
attribute [local go_sem] max2_int min2_int max_two min_two   -- for this text's walks alone
set_option linter.unusedVariables false
set_option linter.unusedSimpArgs false

/-! ### laws_FnExactBrakeAt: function 5 -/
def laws_FnExactBrakeAt.f (k : Nat) (l0_0 : List (S107)) (l0_1 : List (S109)) (a0_2 : Int) (a0_3 : Int) (a0_4 : Int) (a1 : Int) : Option (Bool):=(laws_szProfile.f l0_0 l0_1 a0_2 a0_3 a0_4 1048576).bind fun t271 => (if t271 < 0 then (some true) else ((laws_toProfile.f k l0_0 l0_1 a0_2 a0_3 a0_4).bind fun bt272 => ((spec_BrakeAt.f k bt272.1 bt272.2.1 bt272.2.2.1 bt272.2.2.2.1 bt272.2.2.2.2 a1).bind fun t281 => ((laws_toProfile.f k l0_0 l0_1 a0_2 a0_3 a0_4).bind fun bt282 => ((impl_BrakeAt.f k bt282.1 bt282.2.1 bt282.2.2.1 bt282.2.2.2.1 bt282.2.2.2.2 a1).bind fun t292 => (if t292 = t281 then ((laws_toProfile.f k l0_0 l0_1 a0_2 a0_3 a0_4).bind fun bt293 => ((laws_eqProfile.f k bt282.1 bt282.2.1 bt282.2.2.1 bt282.2.2.2.1 bt282.2.2.2.2 bt293.1 bt293.2.1 bt293.2.2.1 bt293.2.2.2.1 bt293.2.2.2.2).bind fun t302 => (if t302 = true then (some true) else (some false)))) else (some false)))))))
theorem laws_FnExactBrakeAt.mono : ∀ a0 a1 a2 a3 a4 a5 k,LeO (laws_FnExactBrakeAt.f k a0 a1 a2 a3 a4 a5) (laws_FnExactBrakeAt.f (k + 1) a0 a1 a2 a3 a4 a5):=by
 intro a0 a1 a2 a3 a4 a5 k
 unfold laws_FnExactBrakeAt.f
 repeat' first
   | (with_reducible exact impl_BrakeAt.mono _ _ _ _ _ _ _)
   | (with_reducible exact laws_eqProfile.mono _ _ _ _ _ _ _ _ _ _ _)
   | (with_reducible exact laws_toProfile.mono _ _ _ _ _ _)
   | (with_reducible exact spec_BrakeAt.mono _ _ _ _ _ _ _)
   | (with_reducible exact LeO.refl _)
   | (with_reducible exact LeO.none _)
   | (with_reducible refine LeO.ite ?_ ?_)
   | (with_reducible refine LeO.bind ?_ (fun _ => ?_))
   | exact impl_BrakeAt.mono _ _ _ _ _ _ _
   | exact laws_eqProfile.mono _ _ _ _ _ _ _ _ _ _ _
   | exact laws_toProfile.mono _ _ _ _ _ _
   | exact spec_BrakeAt.mono _ _ _ _ _ _ _
   | exact LeO.none _
   | refine LeO.ite ?_ ?_
   | refine LeO.bind ?_ (fun _ => ?_)
set_option maxHeartbeats 8000000 in
set_option maxRecDepth 100000 in
theorem laws_FnExactBrakeAt.calls (k : Nat) (A0_0 : Option Addr) (c0_0 : Nat) (l0_0 : List (S107)) (A0_1 : Option Addr) (c0_1 : Nat) (l0_1 : List (S109)) (a0_2 : Int) (a0_3 : Int) (a0_4 : Int) (a1 : Int) (r : Bool) (w : World) (hr0_0 : Kd.C k107 w A0_0 l0_0.length l0_0) (hc0_0 : l0_0.length ≤ c0_0) (hr0_1 : Kd.C k109 w A0_1 l0_1.length l0_1) (hc0_1 : l0_1.length ≤ c0_1) (hrt : As (r = true)) (h : laws_FnExactBrakeAt.f k l0_0 l0_1 a0_2 a0_3 a0_4 a1 = some r) :
  Calls Try.prog 5 #[.agg #[.slice A0_0 l0_0.length c0_0,.slice A0_1 l0_1.length c0_1,.int .i64 a0_2,.int .i64 a0_3,.int .i64 a0_4],.int .i64 a1] w fun e w' => e = .returned (.bool r)∧Below w.heap.size w w':=by
 have hu25:=Try.underlying25
 have hu31:=Try.underlying31
 have HR0_0:=Am hr0_0
 have HC0_0:=Am hc0_0
 clear hr0_0 hc0_0
 have HR0_1:=Am hr0_1
 have HC0_1:=Am hc0_1
 clear hr0_1 hc0_1
 have HB:=Am (Below.refl w.heap.size w)
 have H : ((laws_szProfile.f l0_0 l0_1 a0_2 a0_3 a0_4 1048576).bind fun t271 => (if t271 < 0 then (some true) else ((laws_toProfile.f k l0_0 l0_1 a0_2 a0_3 a0_4).bind fun bt272 => ((spec_BrakeAt.f k bt272.1 bt272.2.1 bt272.2.2.1 bt272.2.2.2.1 bt272.2.2.2.2 a1).bind fun t281 => ((laws_toProfile.f k l0_0 l0_1 a0_2 a0_3 a0_4).bind fun bt282 => ((impl_BrakeAt.f k bt282.1 bt282.2.1 bt282.2.2.1 bt282.2.2.2.1 bt282.2.2.2.2 a1).bind fun t292 => (if t292 = t281 then ((laws_toProfile.f k l0_0 l0_1 a0_2 a0_3 a0_4).bind fun bt293 => ((laws_eqProfile.f k bt282.1 bt282.2.1 bt282.2.2.1 bt282.2.2.2.1 bt282.2.2.2.2 bt293.1 bt293.2.1 bt293.2.2.1 bt293.2.2.2.1 bt293.2.2.2.2).bind fun t302 => (if t302 = true then (some true) else (some false)))) else (some false)))))))) = some r:=h
 clear h
 replace H:=Option.bind_eq_some_iff.mp H
 obtain ⟨t271,A30,H⟩:=H
 replace H : (if t271 < 0 then (some true) else ((laws_toProfile.f k l0_0 l0_1 a0_2 a0_3 a0_4).bind fun bt272 => ((spec_BrakeAt.f k bt272.1 bt272.2.1 bt272.2.2.1 bt272.2.2.2.1 bt272.2.2.2.2 a1).bind fun t281 => ((laws_toProfile.f k l0_0 l0_1 a0_2 a0_3 a0_4).bind fun bt282 => ((impl_BrakeAt.f k bt282.1 bt282.2.1 bt282.2.2.1 bt282.2.2.2.1 bt282.2.2.2.2 a1).bind fun t292 => (if t292 = t281 then ((laws_toProfile.f k l0_0 l0_1 a0_2 a0_3 a0_4).bind fun bt293 => ((laws_eqProfile.f k bt282.1 bt282.2.1 bt282.2.2.1 bt282.2.2.2.1 bt282.2.2.2.2 bt293.1 bt293.2.1 bt293.2.2.1 bt293.2.2.2.1 bt293.2.2.2.2).bind fun t302 => (if t302 = true then (some true) else (some false)))) else (some false))))))) = some r:=H
 have A3:=Am A30
 clear A30
 by_cases c4 : t271 < 0
 ·rw [if_pos c4] at H
  have c4b0 : decide (t271 < 0) = true:=decide_eq_true c4
  clear c4
  obtain rfl:=Option.some.inj H
  go_enter Try.func5,Try.ntmps5
  go_wp2_with (first|((with_reducible refine gate_dst (N:=2) rfl ?_);refine box_event ?hg (N:=2) ?hd (cs:=#[.slice A0_0 l0_0.length c0_0,.slice A0_1 l0_1.length c0_1,.int .i64 a0_2,.int .i64 a0_3,.int .i64 a0_4]) (t:=25) ?hr ?_;(case hd => rfl);(case hg => rfl);(case hr => first|(go_simp;done)|(go_simp;rfl));intro gb270 hg w5 hbox hb;have n0_:=Am (below_step (by repeat (first|(with_reducible first|exact HB.out|apply bA|apply bN|apply bD)|exact HB.out)) hb);have n1_:=Am (hbox);have n2_:=Am ((by rw [hg];exact (below_size (by repeat (first|(with_reducible first|exact HB.out|apply bA|apply bN|apply bD)|exact HB.out))) : w.heap.size ≤ gb270));have n3_:=Am ((by rw [hg];exact (below_size (by repeat (first|(with_reducible first|exact HB.out|apply bA|apply bN|apply bD)|exact HB.out))) : w.heap.size ≤ gb270));clear HB;have HB:=n0_;have BK270:=n1_;have GW270:=n2_;have GE270:=n3_;clear n0_ n1_ n2_ n3_;clear hb hbox hg;have hcz6_0 : w5.cell? ⟨gb270,0,none⟩ = some (.slice A0_0 l0_0.length c0_0):=(kC BK270.out 0).trans rfl;have hcz6_1 : w5.cell? ⟨gb270,1,none⟩ = some (.slice A0_1 l0_1.length c0_1):=(kC BK270.out 1).trans rfl;have hcz6_2 : w5.cell? ⟨gb270,2,none⟩ = some (.int .i64 a0_2):=(kC BK270.out 2).trans rfl;have hcz6_3 : w5.cell? ⟨gb270,3,none⟩ = some (.int .i64 a0_3):=(kC BK270.out 3).trans rfl;have hcz6_4 : w5.cell? ⟨gb270,4,none⟩ = some (.int .i64 a0_4):=(kC BK270.out 4).trans rfl;have hfz6_0:=kF BK270.out 0;have hfz6_1:=kF BK270.out 1;have hfz6_2:=kF BK270.out 2;have hfz6_3:=kF BK270.out 3;have hfz6_4:=kF BK270.out 4)|((with_reducible refine gate_callee (f:=14) rfl ?_);refine goesL_ (some 11) rfl rfl Try.func14 (by kernel_rfl) rfl #[.agg #[.slice A0_0 l0_0.length c0_0,.slice A0_1 l0_1.length c0_1,.int .i64 a0_2,.int .i64 a0_3,.int .i64 a0_4],.int .i64 1048576] rfl (by (try simp only [List.map_toArray,List.map_cons,List.map_nil]);first|done|rfl|(simp only [List.length_drop,List.length_take];rfl)) ?_;(with_reducible refine (laws_szProfile.calls _ _ l0_0 _ _ l0_1 a0_2 a0_3 a0_4 1048576 t271 _ ?side1 ?side2 ?side3 ?side4 A3.out).mono ?_);(case side1 => repeat (first|exact (Kd.C_below HR0_0.out HB.out)|(with_reducible refine Kd.C_alloc ?_ _)|(with_reducible refine Kd.C_drewN ?_ _)|(with_reducible refine Kd.C_drew ?_)));(case side2 => exact HC0_0.out);(case side3 => repeat (first|exact (Kd.C_below HR0_1.out HB.out)|(with_reducible refine Kd.C_alloc ?_ _)|(with_reducible refine Kd.C_drewN ?_ _)|(with_reducible refine Kd.C_drew ?_)));(case side4 => exact HC0_1.out);rintro e w7 ⟨rfl,hb⟩;refine ⟨_,rfl,?_⟩;have n0_:=Am (blk_below (g:=gb270) (o:=.cells #[.slice A0_0 l0_0.length c0_0,.slice A0_1 l0_1.length c0_1,.int .i64 a0_2,.int .i64 a0_3,.int .i64 a0_4] 25 (0,0)) (by (with_reducible repeat (first|refine kN ?_ _|refine kD ?_|refine kA ?_ _));exact BK270.out) hb);have n1_:=Am (below_step (by repeat (first|(with_reducible first|exact HB.out|apply bA|apply bN|apply bD|refine bS ?_ GE270.out)|exact HB.out)) hb);clear BK270;clear HB;have BK270:=n0_;have HB:=n1_;clear n0_ n1_;(try clear hb);(try clear hb2);(try clear hk);(try clear hi)))
  go_ret
  exact ⟨by first|rfl|(simp [errW_none,errW_some] <;> rfl)|(simp [*,errW_none,errW_some] <;> rfl),by repeat (first|(with_reducible first|exact HB.out|apply bA|apply bN|apply bD|refine bS ?_ GE270.out)|exact HB.out)⟩
 ·rw [if_neg c4] at H
  have c4b0 : decide (t271 < 0) = false:=decide_eq_false c4
  clear c4
  replace H:=Option.bind_eq_some_iff.mp H
  obtain ⟨⟨t272,t275,t278,t279,t280⟩,A80,H⟩:=H
  replace H : ((spec_BrakeAt.f k t272 t275 t278 t279 t280 a1).bind fun t281 => ((laws_toProfile.f k l0_0 l0_1 a0_2 a0_3 a0_4).bind fun bt282 => ((impl_BrakeAt.f k bt282.1 bt282.2.1 bt282.2.2.1 bt282.2.2.2.1 bt282.2.2.2.2 a1).bind fun t292 => (if t292 = t281 then ((laws_toProfile.f k l0_0 l0_1 a0_2 a0_3 a0_4).bind fun bt293 => ((laws_eqProfile.f k bt282.1 bt282.2.1 bt282.2.2.1 bt282.2.2.2.1 bt282.2.2.2.2 bt293.1 bt293.2.1 bt293.2.2.1 bt293.2.2.2.1 bt293.2.2.2.2).bind fun t302 => (if t302 = true then (some true) else (some false)))) else (some false))))) = some r:=H
  have A8:=Am A80
  clear A80
  replace H:=Option.bind_eq_some_iff.mp H
  obtain ⟨t281,A90,H⟩:=H
  replace H : ((laws_toProfile.f k l0_0 l0_1 a0_2 a0_3 a0_4).bind fun bt282 => ((impl_BrakeAt.f k bt282.1 bt282.2.1 bt282.2.2.1 bt282.2.2.2.1 bt282.2.2.2.2 a1).bind fun t292 => (if t292 = t281 then ((laws_toProfile.f k l0_0 l0_1 a0_2 a0_3 a0_4).bind fun bt293 => ((laws_eqProfile.f k bt282.1 bt282.2.1 bt282.2.2.1 bt282.2.2.2.1 bt282.2.2.2.2 bt293.1 bt293.2.1 bt293.2.2.1 bt293.2.2.2.1 bt293.2.2.2.2).bind fun t302 => (if t302 = true then (some true) else (some false)))) else (some false)))) = some r:=H
  have A9:=Am A90
  clear A90
  replace H:=Option.bind_eq_some_iff.mp H
  obtain ⟨⟨t282,t285,t288,t289,t290⟩,A100,H⟩:=H
  replace H : ((impl_BrakeAt.f k t282 t285 t288 t289 t290 a1).bind fun t292 => (if t292 = t281 then ((laws_toProfile.f k l0_0 l0_1 a0_2 a0_3 a0_4).bind fun bt293 => ((laws_eqProfile.f k t282 t285 t288 t289 t290 bt293.1 bt293.2.1 bt293.2.2.1 bt293.2.2.2.1 bt293.2.2.2.2).bind fun t302 => (if t302 = true then (some true) else (some false)))) else (some false))) = some r:=H
  have A10:=Am A100
  clear A100
  replace H:=Option.bind_eq_some_iff.mp H
  obtain ⟨t292,A110,H⟩:=H
  replace H : (if t292 = t281 then ((laws_toProfile.f k l0_0 l0_1 a0_2 a0_3 a0_4).bind fun bt293 => ((laws_eqProfile.f k t282 t285 t288 t289 t290 bt293.1 bt293.2.1 bt293.2.2.1 bt293.2.2.2.1 bt293.2.2.2.2).bind fun t302 => (if t302 = true then (some true) else (some false)))) else (some false)) = some r:=H
  have A11:=Am A110
  clear A110
  by_cases c12 : t292 = t281
  ·rw [if_pos c12] at H
   have c12b0 : (t292 == t281) = true:=beq_iff_eq.mpr c12
   have c12b1 : (t292 != t281) = false:=bne_eq_false_iff_eq.mpr c12
   clear c12
   replace H:=Option.bind_eq_some_iff.mp H
   obtain ⟨⟨t293,t296,t299,t300,t301⟩,A130,H⟩:=H
   replace H : ((laws_eqProfile.f k t282 t285 t288 t289 t290 t293 t296 t299 t300 t301).bind fun t302 => (if t302 = true then (some true) else (some false))) = some r:=H
   have A13:=Am A130
   clear A130
   replace H:=Option.bind_eq_some_iff.mp H
   obtain ⟨t302,A140,H⟩:=H
   replace H : (if t302 = true then (some true) else (some false)) = some r:=H
   have A14:=Am A140
   clear A140
   by_cases c15 : t302 = true
   ·subst c15
    have H1 : (some true) = some r:=by rw [if_pos rfl] at H;exact H
    clear H
    have H:=H1
    clear H1
    obtain rfl:=Option.some.inj H
    go_enter Try.func5,Try.ntmps5
    try go_wp2_with (first|((with_reducible refine gate_dst (N:=2) rfl ?_);refine box_event ?hg (N:=2) ?hd (cs:=#[.slice A0_0 l0_0.length c0_0,.slice A0_1 l0_1.length c0_1,.int .i64 a0_2,.int .i64 a0_3,.int .i64 a0_4]) (t:=25) ?hr ?_;(case hd => rfl);(case hg => rfl);(case hr => first|(go_simp;done)|(go_simp;rfl));intro gb270 hg w16 hbox hb;have n0_:=Am (below_step (by repeat (first|(with_reducible first|exact HB.out|apply bA|apply bN|apply bD)|exact HB.out)) hb);have n1_:=Am (hbox);have n2_:=Am ((by rw [hg];exact (below_size (by repeat (first|(with_reducible first|exact HB.out|apply bA|apply bN|apply bD)|exact HB.out))) : w.heap.size ≤ gb270));have n3_:=Am ((by rw [hg];exact (below_size (by repeat (first|(with_reducible first|exact HB.out|apply bA|apply bN|apply bD)|exact HB.out))) : w.heap.size ≤ gb270));clear HB;have HB:=n0_;have BK270:=n1_;have GW270:=n2_;have GE270:=n3_;clear n0_ n1_ n2_ n3_;clear hb hbox hg;have hcz17_0 : w16.cell? ⟨gb270,0,none⟩ = some (.slice A0_0 l0_0.length c0_0):=(kC BK270.out 0).trans rfl;have hcz17_1 : w16.cell? ⟨gb270,1,none⟩ = some (.slice A0_1 l0_1.length c0_1):=(kC BK270.out 1).trans rfl;have hcz17_2 : w16.cell? ⟨gb270,2,none⟩ = some (.int .i64 a0_2):=(kC BK270.out 2).trans rfl;have hcz17_3 : w16.cell? ⟨gb270,3,none⟩ = some (.int .i64 a0_3):=(kC BK270.out 3).trans rfl;have hcz17_4 : w16.cell? ⟨gb270,4,none⟩ = some (.int .i64 a0_4):=(kC BK270.out 4).trans rfl;have hfz17_0:=kF BK270.out 0;have hfz17_1:=kF BK270.out 1;have hfz17_2:=kF BK270.out 2;have hfz17_3:=kF BK270.out 3;have hfz17_4:=kF BK270.out 4)|((with_reducible refine gate_callee (f:=14) rfl ?_);refine goesL_ (some 11) rfl rfl Try.func14 (by kernel_rfl) rfl #[.agg #[.slice A0_0 l0_0.length c0_0,.slice A0_1 l0_1.length c0_1,.int .i64 a0_2,.int .i64 a0_3,.int .i64 a0_4],.int .i64 1048576] rfl (by (try simp only [List.map_toArray,List.map_cons,List.map_nil]);first|done|rfl|(simp only [List.length_drop,List.length_take];rfl)) ?_;(with_reducible refine (laws_szProfile.calls _ _ l0_0 _ _ l0_1 a0_2 a0_3 a0_4 1048576 t271 _ ?side1 ?side2 ?side3 ?side4 A3.out).mono ?_);(case side1 => repeat (first|exact (Kd.C_below HR0_0.out HB.out)|(with_reducible refine Kd.C_alloc ?_ _)|(with_reducible refine Kd.C_drewN ?_ _)|(with_reducible refine Kd.C_drew ?_)));(case side2 => exact HC0_0.out);(case side3 => repeat (first|exact (Kd.C_below HR0_1.out HB.out)|(with_reducible refine Kd.C_alloc ?_ _)|(with_reducible refine Kd.C_drewN ?_ _)|(with_reducible refine Kd.C_drew ?_)));(case side4 => exact HC0_1.out);rintro e w18 ⟨rfl,hb⟩;refine ⟨_,rfl,?_⟩;have n0_:=Am (blk_below (g:=gb270) (o:=.cells #[.slice A0_0 l0_0.length c0_0,.slice A0_1 l0_1.length c0_1,.int .i64 a0_2,.int .i64 a0_3,.int .i64 a0_4] 25 (0,0)) (by (with_reducible repeat (first|refine kN ?_ _|refine kD ?_|refine kA ?_ _));exact BK270.out) hb);have n1_:=Am (below_step (by repeat (first|(with_reducible first|exact HB.out|apply bA|apply bN|apply bD|refine bS ?_ GE270.out)|exact HB.out)) hb);clear BK270;clear HB;have BK270:=n0_;have HB:=n1_;clear n0_ n1_;(try clear hb);(try clear hb2);(try clear hk);(try clear hi);have hcz19_0 : w18.cell? ⟨gb270,0,none⟩ = some (.slice A0_0 l0_0.length c0_0):=(kC BK270.out 0).trans rfl;have hcz19_1 : w18.cell? ⟨gb270,1,none⟩ = some (.slice A0_1 l0_1.length c0_1):=(kC BK270.out 1).trans rfl;have hcz19_2 : w18.cell? ⟨gb270,2,none⟩ = some (.int .i64 a0_2):=(kC BK270.out 2).trans rfl;have hcz19_3 : w18.cell? ⟨gb270,3,none⟩ = some (.int .i64 a0_3):=(kC BK270.out 3).trans rfl;have hcz19_4 : w18.cell? ⟨gb270,4,none⟩ = some (.int .i64 a0_4):=(kC BK270.out 4).trans rfl;have hfz19_0:=kF BK270.out 0;have hfz19_1:=kF BK270.out 1;have hfz19_2:=kF BK270.out 2;have hfz19_3:=kF BK270.out 3;have hfz19_4:=kF BK270.out 4)|((with_reducible refine gate_callee (f:=16) rfl ?_);refine goesL_ (some 15) rfl rfl Try.func16 (by kernel_rfl) rfl #[.agg #[.slice A0_0 l0_0.length c0_0,.slice A0_1 l0_1.length c0_1,.int .i64 a0_2,.int .i64 a0_3,.int .i64 a0_4]] rfl (by (try simp only [List.map_toArray,List.map_cons,List.map_nil]);first|done|rfl|(simp only [List.length_drop,List.length_take];rfl)) ?_;(with_reducible refine (laws_toProfile.calls k _ _ l0_0 _ _ l0_1 a0_2 a0_3 a0_4 t272 t275 t278 t279 t280 _ ?side1 ?side2 ?side3 ?side4 A8.out).mono ?_);(case side1 => repeat (first|exact (Kd.C_below HR0_0.out HB.out)|(with_reducible refine Kd.C_alloc ?_ _)|(with_reducible refine Kd.C_drewN ?_ _)|(with_reducible refine Kd.C_drew ?_)));(case side2 => exact HC0_0.out);(case side3 => repeat (first|exact (Kd.C_below HR0_1.out HB.out)|(with_reducible refine Kd.C_alloc ?_ _)|(with_reducible refine Kd.C_drewN ?_ _)|(with_reducible refine Kd.C_drew ?_)));(case side4 => exact HC0_1.out);rintro e w20 ⟨v273,v276,rfl,ho0,ho1,hb⟩;refine ⟨_,rfl,?_⟩;have n0_:=Am (Kd.R_lower ho0 (below_size (by repeat (first|(with_reducible first|exact HB.out|apply bA|apply bN|apply bD|refine bS ?_ GE270.out)|exact HB.out))));have n1_:=Am (Kd.R_lower ho1 (below_size (by repeat (first|(with_reducible first|exact HB.out|apply bA|apply bN|apply bD|refine bS ?_ GE270.out)|exact HB.out))));have n2_:=Am (blk_below (g:=gb270) (o:=.cells #[.slice A0_0 l0_0.length c0_0,.slice A0_1 l0_1.length c0_1,.int .i64 a0_2,.int .i64 a0_3,.int .i64 a0_4] 25 (0,0)) (by (with_reducible repeat (first|refine kN ?_ _|refine kD ?_|refine kA ?_ _));exact BK270.out) hb);have n3_:=Am (below_step (by repeat (first|(with_reducible first|exact HB.out|apply bA|apply bN|apply bD|refine bS ?_ GE270.out)|exact HB.out)) hb);clear BK270;clear HB;have HO274:=n0_;have HO277:=n1_;have BK270:=n2_;have HB:=n3_;clear n0_ n1_ n2_ n3_;(try clear hb);(try clear hb2);(try clear hk);(try clear hi);(try clear ho0);(try clear ho1);obtain ⟨Ao21,co21,eo21⟩:=Kd.R_slice HO274.out;subst eo21;obtain ⟨Ao22,co22,eo22⟩:=Kd.R_slice HO277.out;subst eo22)|((with_reducible refine gate_callee (f:=21) rfl ?_);refine goesL_ (some 17) rfl rfl Try.func21 (by kernel_rfl) rfl #[.agg #[.slice Ao21 t272.length co21,.slice Ao22 t275.length co22,.int .i64 t278,.int .i64 t279,.int .i64 t280],.int .i64 a1] rfl (by (try simp only [List.map_toArray,List.map_cons,List.map_nil]);first|done|rfl|(simp only [List.length_drop,List.length_take];rfl)) ?_;(with_reducible refine (spec_BrakeAt.calls k _ _ t272 _ _ t275 t278 t279 t280 a1 t281 _ ?side1 ?side2 ?side3 ?side4 A9.out).mono ?_);(case side1 => repeat (first|exact (Kd.R_reads' HO274.out).2.2|(with_reducible refine Kd.C_alloc ?_ _)|(with_reducible refine Kd.C_drewN ?_ _)|(with_reducible refine Kd.C_drew ?_)));(case side2 => exact (Kd.R_reads' HO274.out).2.1);(case side3 => repeat (first|exact (Kd.R_reads' HO277.out).2.2|(with_reducible refine Kd.C_alloc ?_ _)|(with_reducible refine Kd.C_drewN ?_ _)|(with_reducible refine Kd.C_drew ?_)));(case side4 => exact (Kd.R_reads' HO277.out).2.1);rintro e w23 ⟨rfl,hb⟩;refine ⟨_,rfl,?_⟩;have n0_:=Am (Kd.R_below (by (with_reducible repeat (first|apply Kd.R_alloc|apply Kd.R_drewN|apply Kd.R_drew));exact HO274.out) hb);have n1_:=Am (Kd.R_below (by (with_reducible repeat (first|apply Kd.R_alloc|apply Kd.R_drewN|apply Kd.R_drew));exact HO277.out) hb);have n2_:=Am (blk_below (g:=gb270) (o:=.cells #[.slice A0_0 l0_0.length c0_0,.slice A0_1 l0_1.length c0_1,.int .i64 a0_2,.int .i64 a0_3,.int .i64 a0_4] 25 (0,0)) (by (with_reducible repeat (first|refine kN ?_ _|refine kD ?_|refine kA ?_ _));exact BK270.out) hb);have n3_:=Am (below_step (by repeat (first|(with_reducible first|exact HB.out|apply bA|apply bN|apply bD|refine bS ?_ GE270.out)|exact HB.out)) hb);clear HO274;clear HO277;clear BK270;clear HB;have HO274:=n0_;have HO277:=n1_;have BK270:=n2_;have HB:=n3_;clear n0_ n1_ n2_ n3_;(try clear hb);(try clear hb2);(try clear hk);(try clear hi);have hcz24_0 : w23.cell? ⟨gb270,0,none⟩ = some (.slice A0_0 l0_0.length c0_0):=(kC BK270.out 0).trans rfl;have hcz24_1 : w23.cell? ⟨gb270,1,none⟩ = some (.slice A0_1 l0_1.length c0_1):=(kC BK270.out 1).trans rfl;have hcz24_2 : w23.cell? ⟨gb270,2,none⟩ = some (.int .i64 a0_2):=(kC BK270.out 2).trans rfl;have hcz24_3 : w23.cell? ⟨gb270,3,none⟩ = some (.int .i64 a0_3):=(kC BK270.out 3).trans rfl;have hcz24_4 : w23.cell? ⟨gb270,4,none⟩ = some (.int .i64 a0_4):=(kC BK270.out 4).trans rfl;have hfz24_0:=kF BK270.out 0;have hfz24_1:=kF BK270.out 1;have hfz24_2:=kF BK270.out 2;have hfz24_3:=kF BK270.out 3;have hfz24_4:=kF BK270.out 4)|((with_reducible refine gate_callee (f:=16) rfl ?_);refine goesL_ (some 19) rfl rfl Try.func16 (by kernel_rfl) rfl #[.agg #[.slice A0_0 l0_0.length c0_0,.slice A0_1 l0_1.length c0_1,.int .i64 a0_2,.int .i64 a0_3,.int .i64 a0_4]] rfl (by (try simp only [List.map_toArray,List.map_cons,List.map_nil]);first|done|rfl|(simp only [List.length_drop,List.length_take];rfl)) ?_;(with_reducible refine (laws_toProfile.calls k _ _ l0_0 _ _ l0_1 a0_2 a0_3 a0_4 t282 t285 t288 t289 t290 _ ?side1 ?side2 ?side3 ?side4 A10.out).mono ?_);(case side1 => repeat (first|exact (Kd.C_below HR0_0.out HB.out)|(with_reducible refine Kd.C_alloc ?_ _)|(with_reducible refine Kd.C_drewN ?_ _)|(with_reducible refine Kd.C_drew ?_)));(case side2 => exact HC0_0.out);(case side3 => repeat (first|exact (Kd.C_below HR0_1.out HB.out)|(with_reducible refine Kd.C_alloc ?_ _)|(with_reducible refine Kd.C_drewN ?_ _)|(with_reducible refine Kd.C_drew ?_)));(case side4 => exact HC0_1.out);rintro e w25 ⟨v283,v286,rfl,ho0,ho1,hb⟩;refine ⟨_,rfl,?_⟩;have n0_:=Am (Kd.R_elder' (by (with_reducible repeat (first|apply Kd.R_alloc|apply Kd.R_drewN|apply Kd.R_drew));exact HO274.out) (Kd.R_base ho0) hb);have n1_:=Am (Kd.R_elder' (by (with_reducible repeat (first|apply Kd.R_alloc|apply Kd.R_drewN|apply Kd.R_drew));exact HO277.out) (Kd.R_base ho1) hb);have n2_:=Am (Kd.R_lower (Kd.R_new' ho0 (Kd.R_lt (by (with_reducible repeat (first|apply Kd.R_alloc|apply Kd.R_drewN|apply Kd.R_drew));exact HO274.out))) (below_size (by repeat (first|(with_reducible first|exact HB.out|apply bA|apply bN|apply bD|refine bS ?_ GE270.out)|exact HB.out))));have n3_:=Am (Kd.R_lower (Kd.R_new' ho1 (Kd.R_lt (by (with_reducible repeat (first|apply Kd.R_alloc|apply Kd.R_drewN|apply Kd.R_drew));exact HO277.out))) (below_size (by repeat (first|(with_reducible first|exact HB.out|apply bA|apply bN|apply bD|refine bS ?_ GE270.out)|exact HB.out))));have n4_:=Am (blk_below (g:=gb270) (o:=.cells #[.slice A0_0 l0_0.length c0_0,.slice A0_1 l0_1.length c0_1,.int .i64 a0_2,.int .i64 a0_3,.int .i64 a0_4] 25 (0,0)) (by (with_reducible repeat (first|refine kN ?_ _|refine kD ?_|refine kA ?_ _));exact BK270.out) hb);have n5_:=Am (below_step (by repeat (first|(with_reducible first|exact HB.out|apply bA|apply bN|apply bD|refine bS ?_ GE270.out)|exact HB.out)) hb);clear HO274;clear HO277;clear BK270;clear HB;have HO274:=n0_;have HO277:=n1_;have HO284:=n2_;have HO287:=n3_;have BK270:=n4_;have HB:=n5_;clear n0_ n1_ n2_ n3_ n4_ n5_;(try clear hb);(try clear hb2);(try clear hk);(try clear hi);(try clear ho0);(try clear ho1))|((with_reducible refine gate_dst (N:=7) rfl ?_);refine box_event ?hg (N:=7) ?hd (cs:=#[.slice none 0 0,.slice none 0 0,.int .i64 0,.int .i64 0,.int .i64 0]) (t:=31) ?hr ?_;(case hd => rfl);(case hg => rfl);(case hr => first|(go_simp;done)|(go_simp;rfl));intro gb291 hg w26 hbox hb;have n0_:=Am (Kd.R_below (by (with_reducible repeat (first|apply Kd.R_alloc|apply Kd.R_drewN|apply Kd.R_drew));exact HO274.out) hb);have n1_:=Am (Kd.R_below (by (with_reducible repeat (first|apply Kd.R_alloc|apply Kd.R_drewN|apply Kd.R_drew));exact HO277.out) hb);have n2_:=Am (Kd.R_below (by (with_reducible repeat (first|apply Kd.R_alloc|apply Kd.R_drewN|apply Kd.R_drew));exact HO284.out) hb);have n3_:=Am (Kd.R_below (by (with_reducible repeat (first|apply Kd.R_alloc|apply Kd.R_drewN|apply Kd.R_drew));exact HO287.out) hb);have n4_:=Am (blk_below (g:=gb270) (o:=.cells #[.slice A0_0 l0_0.length c0_0,.slice A0_1 l0_1.length c0_1,.int .i64 a0_2,.int .i64 a0_3,.int .i64 a0_4] 25 (0,0)) (by (with_reducible repeat (first|refine kN ?_ _|refine kD ?_|refine kA ?_ _));exact BK270.out) hb);have n5_:=Am (below_step (by repeat (first|(with_reducible first|exact HB.out|apply bA|apply bN|apply bD|refine bS ?_ GE270.out)|exact HB.out)) hb);have n6_:=Am (hbox);have n7_:=Am ((by rw [hg];exact (below_size (by repeat (first|(with_reducible first|exact HB.out|apply bA|apply bN|apply bD|refine bS ?_ GE270.out)|exact HB.out))) : w.heap.size ≤ gb291));have n8_:=Am ((by rw [hg];exact (below_size (by repeat (first|(with_reducible first|exact HB.out|apply bA|apply bN|apply bD|refine bS ?_ GE270.out)|exact HB.out))) : w.heap.size ≤ gb291));have n9_:=Am ((by rw [hg];exact Nat.ne_of_lt (blk_lt (g:=gb270) (o:=.cells #[.slice A0_0 l0_0.length c0_0,.slice A0_1 l0_1.length c0_1,.int .i64 a0_2,.int .i64 a0_3,.int .i64 a0_4] 25 (0,0)) (by (with_reducible repeat (first|refine kN ?_ _|refine kD ?_|refine kA ?_ _));exact BK270.out)) : gb270 ≠ gb291));have n10_:=Am ((by rw [hg];exact Nat.ne_of_gt (blk_lt (g:=gb270) (o:=.cells #[.slice A0_0 l0_0.length c0_0,.slice A0_1 l0_1.length c0_1,.int .i64 a0_2,.int .i64 a0_3,.int .i64 a0_4] 25 (0,0)) (by (with_reducible repeat (first|refine kN ?_ _|refine kD ?_|refine kA ?_ _));exact BK270.out)) : gb291 ≠ gb270));clear HO274;clear HO277;clear HO284;clear HO287;clear BK270;clear HB;have HO274:=n0_;have HO277:=n1_;have HO284:=n2_;have HO287:=n3_;have BK270:=n4_;have HB:=n5_;have BK291:=n6_;have GW291:=n7_;have GE291:=n8_;have NB270_291:=n9_;have NB291_270:=n10_;clear n0_ n1_ n2_ n3_ n4_ n5_ n6_ n7_ n8_ n9_ n10_;clear hb hbox hg;obtain ⟨Ao27,co27,eo27⟩:=Kd.R_slice HO284.out;subst eo27;have hnb28:=NB291_270.out;have hnc28:=NB270_291.out;have hcz29_0 : w26.cell? ⟨gb291,0,none⟩ = some (.slice none 0 0):=(kC BK291.out 0).trans rfl;have hcz29_1 : w26.cell? ⟨gb291,1,none⟩ = some (.slice none 0 0):=(kC BK291.out 1).trans rfl;have hcz29_2 : w26.cell? ⟨gb291,2,none⟩ = some (.int .i64 0):=(kC BK291.out 2).trans rfl;have hcz29_3 : w26.cell? ⟨gb291,3,none⟩ = some (.int .i64 0):=(kC BK291.out 3).trans rfl;have hcz29_4 : w26.cell? ⟨gb291,4,none⟩ = some (.int .i64 0):=(kC BK291.out 4).trans rfl;have hfz29_0:=kF BK291.out 0;have hfz29_1:=kF BK291.out 1;have hfz29_2:=kF BK291.out 2;have hfz29_3:=kF BK291.out 3;have hfz29_4:=kF BK291.out 4;obtain ⟨Ao30,co30,eo30⟩:=Kd.R_slice HO287.out;subst eo30)|((with_reducible refine gate_callee (f:=22) rfl ?_);refine goesL_ (some 22) rfl rfl Try.func22 (by kernel_rfl) rfl #[.agg #[.slice Ao27 t282.length co27,.slice Ao30 t285.length co30,.int .i64 t288,.int .i64 t289,.int .i64 t290],.int .i64 a1] rfl (by (try simp only [List.map_toArray,List.map_cons,List.map_nil]);first|done|rfl|(simp only [List.length_drop,List.length_take];rfl)) ?_;(with_reducible refine (impl_BrakeAt.calls k _ _ t282 _ _ t285 t288 t289 t290 a1 t292 _ ?side1 ?side2 ?side3 ?side4 A11.out).mono ?_);(case side1 => refine (Kd.R_reads' (e:=71) (base:=w.heap.size) (ok:=fun k_ => (True∧some k_ ≠ (.slice Ao21 t272.length co21 : Value).ownBlock)) (n:=t282.length) (c:=co27) ?_).2.2;exact (by (with_reducible repeat (first|apply Kd.R_alloc|apply Kd.R_drewN|apply Kd.R_drew));exact (Kd.R_mono (Kd.R_far (p:=⟨gb291,4,none⟩) (Kd.R_far (p:=⟨gb291,3,none⟩) (Kd.R_far (p:=⟨gb291,2,none⟩) (Kd.R_far (p:=⟨gb291,1,none⟩) (Kd.R_far (p:=⟨gb291,0,none⟩) (Kd.R_types HO284.out BK291.out (by decide)) (fun _ hk => hk.2) (.slice Ao27 t282.length co27)) (fun _ hk => hk.2) (.slice Ao30 t285.length co30)) (fun _ hk => hk.2) (.int .i64 t288)) (fun _ hk => hk.2) (.int .i64 t289)) (fun _ hk => hk.2) (.int .i64 t290)) (fun _ h_ => h_.1))));(case side2 => exact (Kd.R_reads' HO284.out).2.1);(case side3 => refine (Kd.R_reads' (e:=75) (base:=w.heap.size) (ok:=fun k_ => (True∧some k_ ≠ (.slice Ao22 t275.length co22 : Value).ownBlock)) (n:=t285.length) (c:=co30) ?_).2.2;exact (by (with_reducible repeat (first|apply Kd.R_alloc|apply Kd.R_drewN|apply Kd.R_drew));exact (Kd.R_mono (Kd.R_far (p:=⟨gb291,4,none⟩) (Kd.R_far (p:=⟨gb291,3,none⟩) (Kd.R_far (p:=⟨gb291,2,none⟩) (Kd.R_far (p:=⟨gb291,1,none⟩) (Kd.R_far (p:=⟨gb291,0,none⟩) (Kd.R_types HO287.out BK291.out (by decide)) (fun _ hk => hk.2) (.slice Ao27 t282.length co27)) (fun _ hk => hk.2) (.slice Ao30 t285.length co30)) (fun _ hk => hk.2) (.int .i64 t288)) (fun _ hk => hk.2) (.int .i64 t289)) (fun _ hk => hk.2) (.int .i64 t290)) (fun _ h_ => h_.1))));(case side4 => exact (Kd.R_reads' HO287.out).2.1);rintro e w31 ⟨rfl,hb⟩;refine ⟨_,rfl,?_⟩;have n0_:=Am (Kd.R_below (by (with_reducible repeat (first|apply Kd.R_alloc|apply Kd.R_drewN|apply Kd.R_drew));exact (Kd.R_mono (Kd.R_far (p:=⟨gb291,4,none⟩) (Kd.R_far (p:=⟨gb291,3,none⟩) (Kd.R_far (p:=⟨gb291,2,none⟩) (Kd.R_far (p:=⟨gb291,1,none⟩) (Kd.R_far (p:=⟨gb291,0,none⟩) (Kd.R_types HO274.out BK291.out (by decide)) (fun _ hk => hk.2) (.slice Ao27 t282.length co27)) (fun _ hk => hk.2) (.slice Ao30 t285.length co30)) (fun _ hk => hk.2) (.int .i64 t288)) (fun _ hk => hk.2) (.int .i64 t289)) (fun _ hk => hk.2) (.int .i64 t290)) (fun _ h_ => h_.1))) hb);have n1_:=Am (Kd.R_below (by (with_reducible repeat (first|apply Kd.R_alloc|apply Kd.R_drewN|apply Kd.R_drew));exact (Kd.R_mono (Kd.R_far (p:=⟨gb291,4,none⟩) (Kd.R_far (p:=⟨gb291,3,none⟩) (Kd.R_far (p:=⟨gb291,2,none⟩) (Kd.R_far (p:=⟨gb291,1,none⟩) (Kd.R_far (p:=⟨gb291,0,none⟩) (Kd.R_types HO277.out BK291.out (by decide)) (fun _ hk => hk.2) (.slice Ao27 t282.length co27)) (fun _ hk => hk.2) (.slice Ao30 t285.length co30)) (fun _ hk => hk.2) (.int .i64 t288)) (fun _ hk => hk.2) (.int .i64 t289)) (fun _ hk => hk.2) (.int .i64 t290)) (fun _ h_ => h_.1))) hb);have n2_:=Am (Kd.R_below (by (with_reducible repeat (first|apply Kd.R_alloc|apply Kd.R_drewN|apply Kd.R_drew));exact (Kd.R_mono (Kd.R_far (p:=⟨gb291,4,none⟩) (Kd.R_far (p:=⟨gb291,3,none⟩) (Kd.R_far (p:=⟨gb291,2,none⟩) (Kd.R_far (p:=⟨gb291,1,none⟩) (Kd.R_far (p:=⟨gb291,0,none⟩) (Kd.R_types HO284.out BK291.out (by decide)) (fun _ hk => hk.2) (.slice Ao27 t282.length co27)) (fun _ hk => hk.2) (.slice Ao30 t285.length co30)) (fun _ hk => hk.2) (.int .i64 t288)) (fun _ hk => hk.2) (.int .i64 t289)) (fun _ hk => hk.2) (.int .i64 t290)) (fun _ h_ => h_.1))) hb);have n3_:=Am (Kd.R_below (by (with_reducible repeat (first|apply Kd.R_alloc|apply Kd.R_drewN|apply Kd.R_drew));exact (Kd.R_mono (Kd.R_far (p:=⟨gb291,4,none⟩) (Kd.R_far (p:=⟨gb291,3,none⟩) (Kd.R_far (p:=⟨gb291,2,none⟩) (Kd.R_far (p:=⟨gb291,1,none⟩) (Kd.R_far (p:=⟨gb291,0,none⟩) (Kd.R_types HO287.out BK291.out (by decide)) (fun _ hk => hk.2) (.slice Ao27 t282.length co27)) (fun _ hk => hk.2) (.slice Ao30 t285.length co30)) (fun _ hk => hk.2) (.int .i64 t288)) (fun _ hk => hk.2) (.int .i64 t289)) (fun _ hk => hk.2) (.int .i64 t290)) (fun _ h_ => h_.1))) hb);have n4_:=Am (blk_below (g:=gb270) (o:=.cells #[.slice A0_0 l0_0.length c0_0,.slice A0_1 l0_1.length c0_1,.int .i64 a0_2,.int .i64 a0_3,.int .i64 a0_4] 25 (0,0)) (by (with_reducible repeat (first|refine kN ?_ _|refine kD ?_|refine kA ?_ _));refine blk_far ?_ NB270_291.out _;(with_reducible repeat (first|refine kN ?_ _|refine kD ?_|refine kA ?_ _));refine blk_far ?_ NB270_291.out _;(with_reducible repeat (first|refine kN ?_ _|refine kD ?_|refine kA ?_ _));refine blk_far ?_ NB270_291.out _;(with_reducible repeat (first|refine kN ?_ _|refine kD ?_|refine kA ?_ _));refine blk_far ?_ NB270_291.out _;(with_reducible repeat (first|refine kN ?_ _|refine kD ?_|refine kA ?_ _));refine blk_far ?_ NB270_291.out _;(with_reducible repeat (first|refine kN ?_ _|refine kD ?_|refine kA ?_ _));exact BK270.out) hb);have n5_:=Am (blk_below (g:=gb291) (o:=.cells #[.slice Ao27 t282.length co27,.slice Ao30 t285.length co30,.int .i64 t288,.int .i64 t289,.int .i64 t290] 31 (0,0)) (by (with_reducible repeat (first|refine kN ?_ _|refine kD ?_|refine kA ?_ _));refine blk_put (cs:=#[.slice Ao27 t282.length co27,.slice Ao30 t285.length co30,.int .i64 t288,.int .i64 t289,.int .i64 0]) ?_ 4 _ rfl;(with_reducible repeat (first|refine kN ?_ _|refine kD ?_|refine kA ?_ _));refine blk_put (cs:=#[.slice Ao27 t282.length co27,.slice Ao30 t285.length co30,.int .i64 t288,.int .i64 0,.int .i64 0]) ?_ 3 _ rfl;(with_reducible repeat (first|refine kN ?_ _|refine kD ?_|refine kA ?_ _));refine blk_put (cs:=#[.slice Ao27 t282.length co27,.slice Ao30 t285.length co30,.int .i64 0,.int .i64 0,.int .i64 0]) ?_ 2 _ rfl;(with_reducible repeat (first|refine kN ?_ _|refine kD ?_|refine kA ?_ _));refine blk_put (cs:=#[.slice Ao27 t282.length co27,.slice none 0 0,.int .i64 0,.int .i64 0,.int .i64 0]) ?_ 1 _ rfl;(with_reducible repeat (first|refine kN ?_ _|refine kD ?_|refine kA ?_ _));refine blk_put (cs:=#[.slice none 0 0,.slice none 0 0,.int .i64 0,.int .i64 0,.int .i64 0]) ?_ 0 _ rfl;(with_reducible repeat (first|refine kN ?_ _|refine kD ?_|refine kA ?_ _));exact BK291.out) hb);have n6_:=Am (below_step (by repeat (first|(with_reducible first|exact HB.out|apply bA|apply bN|apply bD|refine bS ?_ GE270.out|refine bS ?_ GE291.out)|exact HB.out)) hb);clear HO274;clear HO277;clear HO284;clear HO287;clear BK270;clear BK291;clear HB;have HO274:=n0_;have HO277:=n1_;have HO284:=n2_;have HO287:=n3_;have BK270:=n4_;have BK291:=n5_;have HB:=n6_;clear n0_ n1_ n2_ n3_ n4_ n5_ n6_;(try clear hb);(try clear hb2);(try clear hk);(try clear hi)))
    have n0_:=Am (Kd.R_drew HO274.out)
    have n1_:=Am (Kd.R_drew HO277.out)
    have n2_:=Am (Kd.R_drew HO284.out)
    have n3_:=Am (Kd.R_drew HO287.out)
    have n4_:=Am (kD BK270.out)
    have n5_:=Am (kD BK291.out)
    have n6_:=Am (bD HB.out)
    clear HO274
    clear HO277
    clear HO284
    clear HO287
    clear BK270
    clear BK291
    clear HB
    have HO274:=n0_
    have HO277:=n1_
    have HO284:=n2_
    have HO287:=n3_
    have BK270:=n4_
    have BK291:=n5_
    have HB:=n6_
    clear n0_ n1_ n2_ n3_ n4_ n5_ n6_
    refine start_ (n:=5) (S:=fun w' => w'.cell? ⟨gb291,0,none⟩ = some (.slice Ao27 t282.length co27)∧w'.cell? ⟨gb291,1,none⟩ = some (.slice Ao30 t285.length co30)∧w'.cell? ⟨gb291,2,none⟩ = some (.int .i64 t288)∧w'.cell? ⟨gb291,3,none⟩ = some (.int .i64 t289)∧w'.cell? ⟨gb291,4,none⟩ = some (.int .i64 t290)∧w'.cell? ⟨gb270,0,none⟩ = some (.slice A0_0 l0_0.length c0_0)∧w'.cell? ⟨gb270,1,none⟩ = some (.slice A0_1 l0_1.length c0_1)∧w'.cell? ⟨gb270,2,none⟩ = some (.int .i64 a0_2)∧w'.cell? ⟨gb270,3,none⟩ = some (.int .i64 a0_3)∧w'.cell? ⟨gb270,4,none⟩ = some (.int .i64 a0_4)) (ds:=[]) #[false,false,false,false,false] (by kernel_rfl) rfl rfl ⟨(kC BK291.out 0).trans rfl,(kC BK291.out 1).trans rfl,(kC BK291.out 2).trans rfl,(kC BK291.out 3).trans rfl,(kC BK291.out 4).trans rfl,(kC BK270.out 0).trans rfl,(kC BK270.out 1).trans rfl,(kC BK270.out 2).trans rfl,(kC BK270.out 3).trans rfl,(kC BK270.out 4).trans rfl⟩ (fun hHeld => ?_)
    generalize w31.drew = w32 at HO274 HO277 HO284 HO287 BK270 BK291 HB hHeld ⊢
    refine take_ (i:=0) (N:=some 26) (v:=?_) (a':=?_) #[true,false,false,false,false] rfl rfl (by kernel_rfl) (fun _ _ _ h => h) (Or.inl ⟨by rfl,?_⟩) hHeld ?_ ?_
    rotate_left
    ·rintro w' ⟨s0,s1,s2,s3,s4,s5,s6,s7,s8,s9⟩
     go_simp
     with_reducible rfl
    rotate_left
    ·simp only [Act.put,pS]
     rfl
    refine take_ (i:=1) (N:=some 27) (v:=?_) (a':=?_) #[true,true,false,false,false] rfl rfl (by kernel_rfl) (fun _ _ _ h => h) (Or.inl ⟨by rfl,?_⟩) hHeld ?_ ?_
    rotate_left
    ·rintro w' ⟨s0,s1,s2,s3,s4,s5,s6,s7,s8,s9⟩
     go_simp
     with_reducible rfl
    rotate_left
    ·simp only [Act.put,pS]
     rfl
    refine one_ (i:=2) (N:=some 28) #[true,true,true,false,false] rfl rfl (by kernel_rfl) (by decide) (fun K hK => ?_)
    refine goes_ Try.func16 (by kernel_rfl) rfl #[.agg #[.slice A0_0 l0_0.length c0_0,.slice A0_1 l0_1.length c0_1,.int .i64 a0_2,.int .i64 a0_3,.int .i64 a0_4]] (by rfl) rfl rfl (by (try simp only [List.map_toArray,List.map_cons,List.map_nil]);first|done|rfl|(simp only [List.length_drop,List.length_take];rfl)) ?_
    with_reducible refine (laws_toProfile.calls k _ _ l0_0 _ _ l0_1 a0_2 a0_3 a0_4 t293 t296 t299 t300 t301 _ ?side1 ?side2 ?side3 ?side4 A13.out).mono ?_
    (case side1 => repeat (first|exact (Kd.C_below HR0_0.out HB.out)|(with_reducible refine Kd.C_alloc ?_ _)|(with_reducible refine Kd.C_drewN ?_ _)|(with_reducible refine Kd.C_drew ?_)))
    (case side2 => exact HC0_0.out)
    (case side3 => repeat (first|exact (Kd.C_below HR0_1.out HB.out)|(with_reducible refine Kd.C_alloc ?_ _)|(with_reducible refine Kd.C_drewN ?_ _)|(with_reducible refine Kd.C_drew ?_)))
    (case side4 => exact HC0_1.out)
    rintro e w33 ⟨v294,v297,rfl,ho0,ho1,hb⟩
    refine ⟨_,rfl,?_⟩
    have n0_:=Am (Kd.R_elder' (by (with_reducible repeat (first|apply Kd.R_alloc|apply Kd.R_drewN|apply Kd.R_drew));exact HO274.out) (Kd.R_base ho0) hb)
    have n1_:=Am (Kd.R_elder' (by (with_reducible repeat (first|apply Kd.R_alloc|apply Kd.R_drewN|apply Kd.R_drew));exact HO277.out) (Kd.R_base ho1) hb)
    have n2_:=Am (Kd.R_elder' (by (with_reducible repeat (first|apply Kd.R_alloc|apply Kd.R_drewN|apply Kd.R_drew));exact HO284.out) (Kd.R_base ho0) hb)
    have n3_:=Am (Kd.R_elder' (by (with_reducible repeat (first|apply Kd.R_alloc|apply Kd.R_drewN|apply Kd.R_drew));exact HO287.out) (Kd.R_base ho1) hb)
    have n4_:=Am (Kd.R_lower (Kd.R_new' (Kd.R_new' ho0 (Kd.R_lt (by (with_reducible repeat (first|apply Kd.R_alloc|apply Kd.R_drewN|apply Kd.R_drew));exact HO274.out))) (Kd.R_lt (by (with_reducible repeat (first|apply Kd.R_alloc|apply Kd.R_drewN|apply Kd.R_drew));exact HO284.out))) (below_size (by repeat (first|(with_reducible first|exact HB.out|apply bA|apply bN|apply bD|refine bS ?_ GE270.out|refine bS ?_ GE291.out)|exact HB.out))))
    have n5_:=Am (Kd.R_lower (Kd.R_new' (Kd.R_new' ho1 (Kd.R_lt (by (with_reducible repeat (first|apply Kd.R_alloc|apply Kd.R_drewN|apply Kd.R_drew));exact HO277.out))) (Kd.R_lt (by (with_reducible repeat (first|apply Kd.R_alloc|apply Kd.R_drewN|apply Kd.R_drew));exact HO287.out))) (below_size (by repeat (first|(with_reducible first|exact HB.out|apply bA|apply bN|apply bD|refine bS ?_ GE270.out|refine bS ?_ GE291.out)|exact HB.out))))
    have n6_:=Am (blk_below (g:=gb270) (o:=.cells #[.slice A0_0 l0_0.length c0_0,.slice A0_1 l0_1.length c0_1,.int .i64 a0_2,.int .i64 a0_3,.int .i64 a0_4] 25 (0,0)) (by (with_reducible repeat (first|refine kN ?_ _|refine kD ?_|refine kA ?_ _));exact BK270.out) hb)
    have n7_:=Am (blk_below (g:=gb291) (o:=.cells #[.slice Ao27 t282.length co27,.slice Ao30 t285.length co30,.int .i64 t288,.int .i64 t289,.int .i64 t290] 31 (0,0)) (by (with_reducible repeat (first|refine kN ?_ _|refine kD ?_|refine kA ?_ _));exact BK291.out) hb)
    have n8_:=Am (below_step (by repeat (first|(with_reducible first|exact HB.out|apply bA|apply bN|apply bD|refine bS ?_ GE270.out|refine bS ?_ GE291.out)|exact HB.out)) hb)
    clear HO274
    clear HO277
    clear HO284
    clear HO287
    clear BK270
    clear BK291
    clear HB
    have HO274:=n0_
    have HO277:=n1_
    have HO284:=n2_
    have HO287:=n3_
    have HO295:=n4_
    have HO298:=n5_
    have BK270:=n6_
    have BK291:=n7_
    have HB:=n8_
    clear n0_ n1_ n2_ n3_ n4_ n5_ n6_ n7_ n8_
    (try clear hb)
    (try clear hb2)
    (try clear hk)
    (try clear hi)
    (try clear ho0)
    (try clear ho1)
    obtain ⟨Ao34,co34,eo34⟩:=Kd.R_slice HO295.out
    (first|subst eo34|(injection eo34 with f1_ f2_ f3_;have f4_:=f1_.symm;have f5_:=f3_.symm;clear f1_ f2_ f3_;subst f4_;subst f5_))
    obtain ⟨Ao35,co35,eo35⟩:=Kd.R_slice HO298.out
    (first|subst eo35|(injection eo35 with f1_ f2_ f3_;have f4_:=f1_.symm;have f5_:=f3_.symm;clear f1_ f2_ f3_;subst f4_;subst f5_))
    refine hK.out _ _ ⟨(kC BK291.out 0).trans rfl,(kC BK291.out 1).trans rfl,(kC BK291.out 2).trans rfl,(kC BK291.out 3).trans rfl,(kC BK291.out 4).trans rfl,(kC BK270.out 0).trans rfl,(kC BK270.out 1).trans rfl,(kC BK270.out 2).trans rfl,(kC BK270.out 3).trans rfl,(kC BK270.out 4).trans rfl⟩ (fun hHeld => ?_)
    clear hK K
    refine norm_ (a':=?_) ?_ ?_
    rotate_left
    ·show Act.put _ (some 28) _ = _
     simp only [Act.put,pS]
     rfl
    refine one_ (i:=3) (N:=some 29) #[true,true,true,true,false] rfl rfl (by kernel_rfl) (by decide) (fun K hK => ?_)
    refine goes_ Try.func18 (by kernel_rfl) rfl #[.agg #[.slice Ao27 t282.length co27,.slice Ao30 t285.length co30,.int .i64 t288,.int .i64 t289,.int .i64 t290],.agg #[.slice Ao34 t293.length co34,.slice Ao35 t296.length co35,.int .i64 t299,.int .i64 t300,.int .i64 t301]] (by rfl) rfl rfl (by (try simp only [List.map_toArray,List.map_cons,List.map_nil]);first|done|rfl|(simp only [List.length_drop,List.length_take];rfl)) ?_
    with_reducible refine (laws_eqProfile.calls k _ _ t282 _ _ t285 t288 t289 t290 _ _ t293 _ _ t296 t299 t300 t301 true _ ?side1 ?side2 ?side3 ?side4 ?side5 ?side6 ?side7 ?side8 A14.out).mono ?_
    (case side1 => repeat (first|exact (Kd.R_reads' HO284.out).2.2|(with_reducible refine Kd.C_alloc ?_ _)|(with_reducible refine Kd.C_drewN ?_ _)|(with_reducible refine Kd.C_drew ?_)))
    (case side2 => exact (Kd.R_reads' HO284.out).2.1)
    (case side3 => repeat (first|exact (Kd.R_reads' HO287.out).2.2|(with_reducible refine Kd.C_alloc ?_ _)|(with_reducible refine Kd.C_drewN ?_ _)|(with_reducible refine Kd.C_drew ?_)))
    (case side4 => exact (Kd.R_reads' HO287.out).2.1)
    (case side5 => repeat (first|exact (Kd.R_reads' HO295.out).2.2|(with_reducible refine Kd.C_alloc ?_ _)|(with_reducible refine Kd.C_drewN ?_ _)|(with_reducible refine Kd.C_drew ?_)))
    (case side6 => exact (Kd.R_reads' HO295.out).2.1)
    (case side7 => repeat (first|exact (Kd.R_reads' HO298.out).2.2|(with_reducible refine Kd.C_alloc ?_ _)|(with_reducible refine Kd.C_drewN ?_ _)|(with_reducible refine Kd.C_drew ?_)))
    (case side8 => exact (Kd.R_reads' HO298.out).2.1)
    rintro e w36 ⟨rfl,hb⟩
    refine ⟨_,rfl,?_⟩
    have n0_:=Am (Kd.R_below (by (with_reducible repeat (first|apply Kd.R_alloc|apply Kd.R_drewN|apply Kd.R_drew));exact HO274.out) hb)
    have n1_:=Am (Kd.R_below (by (with_reducible repeat (first|apply Kd.R_alloc|apply Kd.R_drewN|apply Kd.R_drew));exact HO277.out) hb)
    have n2_:=Am (Kd.R_below (by (with_reducible repeat (first|apply Kd.R_alloc|apply Kd.R_drewN|apply Kd.R_drew));exact HO284.out) hb)
    have n3_:=Am (Kd.R_below (by (with_reducible repeat (first|apply Kd.R_alloc|apply Kd.R_drewN|apply Kd.R_drew));exact HO287.out) hb)
    have n4_:=Am (Kd.R_below (by (with_reducible repeat (first|apply Kd.R_alloc|apply Kd.R_drewN|apply Kd.R_drew));exact HO295.out) hb)
    have n5_:=Am (Kd.R_below (by (with_reducible repeat (first|apply Kd.R_alloc|apply Kd.R_drewN|apply Kd.R_drew));exact HO298.out) hb)
    have n6_:=Am (blk_below (g:=gb270) (o:=.cells #[.slice A0_0 l0_0.length c0_0,.slice A0_1 l0_1.length c0_1,.int .i64 a0_2,.int .i64 a0_3,.int .i64 a0_4] 25 (0,0)) (by (with_reducible repeat (first|refine kN ?_ _|refine kD ?_|refine kA ?_ _));exact BK270.out) hb)
    have n7_:=Am (blk_below (g:=gb291) (o:=.cells #[.slice Ao27 t282.length co27,.slice Ao30 t285.length co30,.int .i64 t288,.int .i64 t289,.int .i64 t290] 31 (0,0)) (by (with_reducible repeat (first|refine kN ?_ _|refine kD ?_|refine kA ?_ _));exact BK291.out) hb)
    have n8_:=Am (below_step (by repeat (first|(with_reducible first|exact HB.out|apply bA|apply bN|apply bD|refine bS ?_ GE270.out|refine bS ?_ GE291.out)|exact HB.out)) hb)
    clear HO274
    clear HO277
    clear HO284
    clear HO287
    clear HO295
    clear HO298
    clear BK270
    clear BK291
    clear HB
    have HO274:=n0_
    have HO277:=n1_
    have HO284:=n2_
    have HO287:=n3_
    have HO295:=n4_
    have HO298:=n5_
    have BK270:=n6_
    have BK291:=n7_
    have HB:=n8_
    clear n0_ n1_ n2_ n3_ n4_ n5_ n6_ n7_ n8_
    (try clear hb)
    (try clear hb2)
    (try clear hk)
    (try clear hi)
    refine hK.out _ _ ⟨(kC BK291.out 0).trans rfl,(kC BK291.out 1).trans rfl,(kC BK291.out 2).trans rfl,(kC BK291.out 3).trans rfl,(kC BK291.out 4).trans rfl,(kC BK270.out 0).trans rfl,(kC BK270.out 1).trans rfl,(kC BK270.out 2).trans rfl,(kC BK270.out 3).trans rfl,(kC BK270.out 4).trans rfl⟩ (fun hHeld => ?_)
    clear hK K
    refine norm_ (a':=?_) ?_ ?_
    rotate_left
    ·show Act.put _ (some 29) _ = _
     simp only [Act.put,pS]
     rfl
    refine pure_ (i:=4) (N:=some 30) (v:=?_) (a':=?_) #[true,true,true,true,true] rfl rfl (by kernel_rfl) (fun _ _ _ h => h) (Or.inl ⟨by rfl,?_⟩) ?_ ?_
    rotate_left
    ·intro w'
     go_simp
     with_reducible rfl
    rotate_left
    ·simp only [Act.put,pS]
     rfl
    refine done_ (by kernel_rfl) ?_
    try go_wp2
    go_ret
    exact ⟨by first|rfl|(simp [errW_none,errW_some] <;> rfl)|(simp [*,errW_none,errW_some] <;> rfl),by repeat (first|(with_reducible first|exact HB.out|apply bA|apply bN|apply bD|refine bS ?_ GE270.out|refine bS ?_ GE291.out)|exact HB.out)⟩
   ·replace c15:=Bool.eq_false_iff.mpr c15
    subst c15
    have H1 : (some false) = some r:=by rw [if_neg (show ¬ (false = true) by decide)] at H;exact H
    clear H
    have H:=H1
    clear H1
    exact absurd H (by rw [hrt.out];simp)
  ·rw [if_neg c12] at H
   have c12b0 : (t292 == t281) = false:=beq_eq_false_iff_ne.mpr c12
   have c12b1 : (t292 != t281) = true:=bne_iff_ne.mpr c12
   exact absurd H (by rw [hrt.out];simp)

/-! ### spec_l1speeds: function 72 -/
def spec_l1speeds.f (a0 : Int) (a1 : Int) : Option (Bool):=(spec_l1in.f a0 0 10000).bind fun t303 => (if t303 = true then ((spec_l1in.f a1 0 10000).bind fun t304 => (some t304)) else (some false))
set_option maxHeartbeats 8000000 in
set_option maxRecDepth 100000 in
theorem spec_l1speeds.calls (a0 : Int) (a1 : Int) (r : Bool) (w : World) (h : spec_l1speeds.f a0 a1 = some r) :
  Calls Try.prog 72 #[.int .i64 a0,.int .i64 a1] w fun e w' => e = .returned (.bool r)∧Drawn0 w w':=by
 have H : ((spec_l1in.f a0 0 10000).bind fun t303 => (if t303 = true then ((spec_l1in.f a1 0 10000).bind fun t304 => (some t304)) else (some false))) = some r:=h
 clear h
 replace H:=Option.bind_eq_some_iff.mp H
 obtain ⟨t303,A30,H⟩:=H
 replace H : (if t303 = true then ((spec_l1in.f a1 0 10000).bind fun t304 => (some t304)) else (some false)) = some r:=H
 have A3:=Am A30
 clear A30
 by_cases c4 : t303 = true
 ·subst c4
  have H1 : ((spec_l1in.f a1 0 10000).bind fun t304 => (some t304)) = some r:=by rw [if_pos rfl] at H;exact H
  clear H
  have H:=H1
  clear H1
  replace H:=Option.bind_eq_some_iff.mp H
  obtain ⟨t304,A50,H⟩:=H
  replace H : (some t304) = some r:=H
  have A5:=Am A50
  clear A50
  obtain rfl:=Option.some.inj H
  go_enter Try.func72,Try.ntmps72
  go_wp2_with (first|((with_reducible refine gate_callee (f:=57) rfl ?_);refine goesL_ (some 6) rfl rfl Try.func57 (by kernel_rfl) rfl #[.int .i64 a0,.int .i64 0,.int .i64 10000] rfl (by (try simp only [List.map_toArray,List.map_cons,List.map_nil]);first|done|rfl|(simp only [List.length_drop,List.length_take];rfl)) ?_;(with_reducible refine (spec_l1in.calls a0 0 10000 true _ A3.out).mono ?_);rintro e w' ⟨rfl,⟨nd,rfl⟩⟩;refine ⟨_,rfl,?_⟩)|(go_at_call 57;(with_reducible refine (spec_l1in.calls a1 0 10000 t304 _ A5.out).mono ?_);rintro e w' ⟨rfl,⟨nd,rfl⟩⟩))
  go_ret
  exact ⟨by first|rfl|(simp;done)|(simp [*];done),by repeat (first|exact Drawn0.refl _|apply Drawn0.step)⟩
 ·replace c4:=Bool.eq_false_iff.mpr c4
  subst c4
  have H1 : (some false) = some r:=by rw [if_neg (show ¬ (false = true) by decide)] at H;exact H
  clear H
  have H:=H1
  clear H1
  obtain rfl:=Option.some.inj H
  go_enter Try.func72,Try.ntmps72
  go_wp2_with (first|((with_reducible refine gate_callee (f:=57) rfl ?_);refine goesL_ (some 6) rfl rfl Try.func57 (by kernel_rfl) rfl #[.int .i64 a0,.int .i64 0,.int .i64 10000] rfl (by (try simp only [List.map_toArray,List.map_cons,List.map_nil]);first|done|rfl|(simp only [List.length_drop,List.length_take];rfl)) ?_;(with_reducible refine (spec_l1in.calls a0 0 10000 false _ A3.out).mono ?_);rintro e w' ⟨rfl,⟨nd,rfl⟩⟩;refine ⟨_,rfl,?_⟩))
  go_ret
  exact ⟨by first|rfl|(simp;done)|(simp [*];done),by repeat (first|exact Drawn0.refl _|apply Drawn0.step)⟩

/-! ### spec_l2less: function 73 -/
def spec_l2less.f (a0 : Int) (a1 : Int) : Option (Int):=if a0 < a1 then (some 0) else (some (wrap64 (a0 - a1)))
set_option maxHeartbeats 8000000 in
set_option maxRecDepth 100000 in
theorem spec_l2less.calls (a0 : Int) (a1 : Int) (r : Int) (w : World) (h : spec_l2less.f a0 a1 = some r) :
  Calls Try.prog 73 #[.int .i64 a0,.int .i64 a1] w fun e w' => e = .returned (.int .i64 r)∧Drawn0 w w':=by
 have H : (if a0 < a1 then (some 0) else (some (wrap64 (a0 - a1)))) = some r:=h
 clear h
 by_cases c3 : a0 < a1
 ·rw [if_pos c3] at H
  have c3b0 : decide (a0 < a1) = true:=decide_eq_true c3
  clear c3
  obtain rfl:=Option.some.inj H
  go_enter Try.func73,Try.ntmps73
  go_wp2
  go_ret
  exact ⟨by first|rfl|(simp;done)|(simp [*];done),by repeat (first|exact Drawn0.refl _|apply Drawn0.step)⟩
 ·rw [if_neg c3] at H
  have c3b0 : decide (a0 < a1) = false:=decide_eq_false c3
  clear c3
  obtain rfl:=Option.some.inj H
  go_enter Try.func73,Try.ntmps73
  go_wp2
  go_ret
  exact ⟨by first|rfl|(simp;done)|(simp [*];done),by repeat (first|exact Drawn0.refl _|apply Drawn0.step)⟩

end Go.Proofs.Ytgakkndbcilclaa.PA
