-- Written by a program of this session (wip/print/myprint.py) over the kit's print, with contracts of its own; not a text of print.sh's.
import Derived.Test.YtgakkndbcilclaaPAx0
import Derived.Test.YtgakkndbcilclaaPAx1
import Derived.Test.YtgakkndbcilclaaPAx5
import Derived.Test.YtgakkndbcilclaaPAx12
import Derived.Test.YtgakkndbcilclaaPAx36
import Derived.Test.YtgakkndbcilclaaPAx37
namespace Go.Proofs.Ytgakkndbcilclaa.PA
open Go.RowKit Go.Proofs.YtgakkndbcilclaaW.PrintWords Go.Proofs.YtgakkndbcilclaaW.PrintLast Go.Proofs.YtgakkndbcilclaaW.PrintMore
attribute [local go_sem] max2_int min2_int max_two min_two   -- for this text's walks alone
set_option linter.unusedVariables false
set_option linter.unusedSimpArgs false

/-! ### laws_FnExactMostNow: function 9 -/
def laws_FnExactMostNow.f (k : Nat) (l0_0 : List (S107)) (l0_1 : List (S109)) (a0_2 : Int) (a0_3 : Int) (a0_4 : Int) (a1 : Int) : Option (Bool):=(laws_szProfile.f l0_0 l0_1 a0_2 a0_3 a0_4 1048576).bind fun t417 => (if t417 < 0 then (some true) else ((laws_toProfile.f k l0_0 l0_1 a0_2 a0_3 a0_4).bind fun bt418 => ((spec_MostNow.f k bt418.1 bt418.2.1 bt418.2.2.1 bt418.2.2.2.1 bt418.2.2.2.2 a1).bind fun t427 => ((laws_toProfile.f k l0_0 l0_1 a0_2 a0_3 a0_4).bind fun bt428 => ((impl_MostNow.f k bt428.1 bt428.2.1 bt428.2.2.1 bt428.2.2.2.1 bt428.2.2.2.2 a1).bind fun t438 => (if t438 = t427 then ((laws_toProfile.f k l0_0 l0_1 a0_2 a0_3 a0_4).bind fun bt439 => ((laws_eqProfile.f k bt428.1 bt428.2.1 bt428.2.2.1 bt428.2.2.2.1 bt428.2.2.2.2 bt439.1 bt439.2.1 bt439.2.2.1 bt439.2.2.2.1 bt439.2.2.2.2).bind fun t448 => (if t448 = true then (some true) else (some false)))) else (some false)))))))
theorem laws_FnExactMostNow.mono : ∀ a0 a1 a2 a3 a4 a5 k,LeO (laws_FnExactMostNow.f k a0 a1 a2 a3 a4 a5) (laws_FnExactMostNow.f (k + 1) a0 a1 a2 a3 a4 a5):=by
 intro a0 a1 a2 a3 a4 a5 k
 unfold laws_FnExactMostNow.f
 repeat' first
   | (with_reducible exact impl_MostNow.mono _ _ _ _ _ _ _)
   | (with_reducible exact laws_eqProfile.mono _ _ _ _ _ _ _ _ _ _ _)
   | (with_reducible exact laws_toProfile.mono _ _ _ _ _ _)
   | (with_reducible exact spec_MostNow.mono _ _ _ _ _ _ _)
   | (with_reducible exact LeO.refl _)
   | (with_reducible exact LeO.none _)
   | (with_reducible refine LeO.ite ?_ ?_)
   | (with_reducible refine LeO.bind ?_ (fun _ => ?_))
   | exact impl_MostNow.mono _ _ _ _ _ _ _
   | exact laws_eqProfile.mono _ _ _ _ _ _ _ _ _ _ _
   | exact laws_toProfile.mono _ _ _ _ _ _
   | exact spec_MostNow.mono _ _ _ _ _ _ _
   | exact LeO.none _
   | refine LeO.ite ?_ ?_
   | refine LeO.bind ?_ (fun _ => ?_)
set_option maxHeartbeats 8000000 in
set_option maxRecDepth 100000 in
theorem laws_FnExactMostNow.calls (k : Nat) (A0_0 : Option Addr) (c0_0 : Nat) (l0_0 : List (S107)) (A0_1 : Option Addr) (c0_1 : Nat) (l0_1 : List (S109)) (a0_2 : Int) (a0_3 : Int) (a0_4 : Int) (a1 : Int) (r : Bool) (w : World) (hr0_0 : Kd.C k107 w A0_0 l0_0.length l0_0) (hc0_0 : l0_0.length ≤ c0_0) (hr0_1 : Kd.C k109 w A0_1 l0_1.length l0_1) (hc0_1 : l0_1.length ≤ c0_1) (hrt : As (r = true)) (h : laws_FnExactMostNow.f k l0_0 l0_1 a0_2 a0_3 a0_4 a1 = some r) :
  Calls Try.prog 9 #[.agg #[.slice A0_0 l0_0.length c0_0,.slice A0_1 l0_1.length c0_1,.int .i64 a0_2,.int .i64 a0_3,.int .i64 a0_4],.int .i64 a1] w fun e w' => e = .returned (.bool r)∧Below w.heap.size w w':=by
 have hu25:=Try.underlying25
 have hu31:=Try.underlying31
 have HR0_0:=Am hr0_0
 have HC0_0:=Am hc0_0
 clear hr0_0 hc0_0
 have HR0_1:=Am hr0_1
 have HC0_1:=Am hc0_1
 clear hr0_1 hc0_1
 have HB:=Am (Below.refl w.heap.size w)
 have H : ((laws_szProfile.f l0_0 l0_1 a0_2 a0_3 a0_4 1048576).bind fun t417 => (if t417 < 0 then (some true) else ((laws_toProfile.f k l0_0 l0_1 a0_2 a0_3 a0_4).bind fun bt418 => ((spec_MostNow.f k bt418.1 bt418.2.1 bt418.2.2.1 bt418.2.2.2.1 bt418.2.2.2.2 a1).bind fun t427 => ((laws_toProfile.f k l0_0 l0_1 a0_2 a0_3 a0_4).bind fun bt428 => ((impl_MostNow.f k bt428.1 bt428.2.1 bt428.2.2.1 bt428.2.2.2.1 bt428.2.2.2.2 a1).bind fun t438 => (if t438 = t427 then ((laws_toProfile.f k l0_0 l0_1 a0_2 a0_3 a0_4).bind fun bt439 => ((laws_eqProfile.f k bt428.1 bt428.2.1 bt428.2.2.1 bt428.2.2.2.1 bt428.2.2.2.2 bt439.1 bt439.2.1 bt439.2.2.1 bt439.2.2.2.1 bt439.2.2.2.2).bind fun t448 => (if t448 = true then (some true) else (some false)))) else (some false)))))))) = some r:=h
 clear h
 replace H:=Option.bind_eq_some_iff.mp H
 obtain ⟨t417,A30,H⟩:=H
 replace H : (if t417 < 0 then (some true) else ((laws_toProfile.f k l0_0 l0_1 a0_2 a0_3 a0_4).bind fun bt418 => ((spec_MostNow.f k bt418.1 bt418.2.1 bt418.2.2.1 bt418.2.2.2.1 bt418.2.2.2.2 a1).bind fun t427 => ((laws_toProfile.f k l0_0 l0_1 a0_2 a0_3 a0_4).bind fun bt428 => ((impl_MostNow.f k bt428.1 bt428.2.1 bt428.2.2.1 bt428.2.2.2.1 bt428.2.2.2.2 a1).bind fun t438 => (if t438 = t427 then ((laws_toProfile.f k l0_0 l0_1 a0_2 a0_3 a0_4).bind fun bt439 => ((laws_eqProfile.f k bt428.1 bt428.2.1 bt428.2.2.1 bt428.2.2.2.1 bt428.2.2.2.2 bt439.1 bt439.2.1 bt439.2.2.1 bt439.2.2.2.1 bt439.2.2.2.2).bind fun t448 => (if t448 = true then (some true) else (some false)))) else (some false))))))) = some r:=H
 have A3:=Am A30
 clear A30
 by_cases c4 : t417 < 0
 ·rw [if_pos c4] at H
  have c4b0 : decide (t417 < 0) = true:=decide_eq_true c4
  clear c4
  obtain rfl:=Option.some.inj H
  go_enter Try.func9,Try.ntmps9
  go_wp2_with (first|((with_reducible refine gate_dst (N:=2) rfl ?_);refine box_event ?hg (N:=2) ?hd (cs:=#[.slice A0_0 l0_0.length c0_0,.slice A0_1 l0_1.length c0_1,.int .i64 a0_2,.int .i64 a0_3,.int .i64 a0_4]) (t:=25) ?hr ?_;(case hd => rfl);(case hg => rfl);(case hr => first|(go_simp;done)|(go_simp;rfl));intro gb416 hg w5 hbox hb;have n0_:=Am (below_step (by repeat (first|(with_reducible first|exact HB.out|apply bA|apply bN|apply bD)|exact HB.out)) hb);have n1_:=Am (hbox);have n2_:=Am ((by rw [hg];exact (below_size (by repeat (first|(with_reducible first|exact HB.out|apply bA|apply bN|apply bD)|exact HB.out))) : w.heap.size ≤ gb416));have n3_:=Am ((by rw [hg];exact (below_size (by repeat (first|(with_reducible first|exact HB.out|apply bA|apply bN|apply bD)|exact HB.out))) : w.heap.size ≤ gb416));clear HB;have HB:=n0_;have BK416:=n1_;have GW416:=n2_;have GE416:=n3_;clear n0_ n1_ n2_ n3_;clear hb hbox hg;have hcz6_0 : w5.cell? ⟨gb416,0,none⟩ = some (.slice A0_0 l0_0.length c0_0):=(kC BK416.out 0).trans rfl;have hcz6_1 : w5.cell? ⟨gb416,1,none⟩ = some (.slice A0_1 l0_1.length c0_1):=(kC BK416.out 1).trans rfl;have hcz6_2 : w5.cell? ⟨gb416,2,none⟩ = some (.int .i64 a0_2):=(kC BK416.out 2).trans rfl;have hcz6_3 : w5.cell? ⟨gb416,3,none⟩ = some (.int .i64 a0_3):=(kC BK416.out 3).trans rfl;have hcz6_4 : w5.cell? ⟨gb416,4,none⟩ = some (.int .i64 a0_4):=(kC BK416.out 4).trans rfl;have hfz6_0:=kF BK416.out 0;have hfz6_1:=kF BK416.out 1;have hfz6_2:=kF BK416.out 2;have hfz6_3:=kF BK416.out 3;have hfz6_4:=kF BK416.out 4)|((with_reducible refine gate_callee (f:=14) rfl ?_);refine goesL_ (some 11) rfl rfl Try.func14 (by kernel_rfl) rfl #[.agg #[.slice A0_0 l0_0.length c0_0,.slice A0_1 l0_1.length c0_1,.int .i64 a0_2,.int .i64 a0_3,.int .i64 a0_4],.int .i64 1048576] rfl (by (try simp only [List.map_toArray,List.map_cons,List.map_nil]);first|done|rfl|(simp only [List.length_drop,List.length_take];rfl)) ?_;(with_reducible refine (laws_szProfile.calls _ _ l0_0 _ _ l0_1 a0_2 a0_3 a0_4 1048576 t417 _ ?side1 ?side2 ?side3 ?side4 A3.out).mono ?_);(case side1 => repeat (first|exact (Kd.C_below HR0_0.out HB.out)|(with_reducible refine Kd.C_alloc ?_ _)|(with_reducible refine Kd.C_drewN ?_ _)|(with_reducible refine Kd.C_drew ?_)));(case side2 => exact HC0_0.out);(case side3 => repeat (first|exact (Kd.C_below HR0_1.out HB.out)|(with_reducible refine Kd.C_alloc ?_ _)|(with_reducible refine Kd.C_drewN ?_ _)|(with_reducible refine Kd.C_drew ?_)));(case side4 => exact HC0_1.out);rintro e w7 ⟨rfl,hb⟩;refine ⟨_,rfl,?_⟩;have n0_:=Am (blk_below (g:=gb416) (o:=.cells #[.slice A0_0 l0_0.length c0_0,.slice A0_1 l0_1.length c0_1,.int .i64 a0_2,.int .i64 a0_3,.int .i64 a0_4] 25 (0,0)) (by (with_reducible repeat (first|refine kN ?_ _|refine kD ?_|refine kA ?_ _));exact BK416.out) hb);have n1_:=Am (below_step (by repeat (first|(with_reducible first|exact HB.out|apply bA|apply bN|apply bD|refine bS ?_ GE416.out)|exact HB.out)) hb);clear BK416;clear HB;have BK416:=n0_;have HB:=n1_;clear n0_ n1_;(try clear hb);(try clear hb2);(try clear hk);(try clear hi)))
  go_ret
  exact ⟨by first|rfl|(simp [errW_none,errW_some] <;> rfl)|(simp [*,errW_none,errW_some] <;> rfl),by repeat (first|(with_reducible first|exact HB.out|apply bA|apply bN|apply bD|refine bS ?_ GE416.out)|exact HB.out)⟩
 ·rw [if_neg c4] at H
  have c4b0 : decide (t417 < 0) = false:=decide_eq_false c4
  clear c4
  replace H:=Option.bind_eq_some_iff.mp H
  obtain ⟨⟨t418,t421,t424,t425,t426⟩,A80,H⟩:=H
  replace H : ((spec_MostNow.f k t418 t421 t424 t425 t426 a1).bind fun t427 => ((laws_toProfile.f k l0_0 l0_1 a0_2 a0_3 a0_4).bind fun bt428 => ((impl_MostNow.f k bt428.1 bt428.2.1 bt428.2.2.1 bt428.2.2.2.1 bt428.2.2.2.2 a1).bind fun t438 => (if t438 = t427 then ((laws_toProfile.f k l0_0 l0_1 a0_2 a0_3 a0_4).bind fun bt439 => ((laws_eqProfile.f k bt428.1 bt428.2.1 bt428.2.2.1 bt428.2.2.2.1 bt428.2.2.2.2 bt439.1 bt439.2.1 bt439.2.2.1 bt439.2.2.2.1 bt439.2.2.2.2).bind fun t448 => (if t448 = true then (some true) else (some false)))) else (some false))))) = some r:=H
  have A8:=Am A80
  clear A80
  replace H:=Option.bind_eq_some_iff.mp H
  obtain ⟨t427,A90,H⟩:=H
  replace H : ((laws_toProfile.f k l0_0 l0_1 a0_2 a0_3 a0_4).bind fun bt428 => ((impl_MostNow.f k bt428.1 bt428.2.1 bt428.2.2.1 bt428.2.2.2.1 bt428.2.2.2.2 a1).bind fun t438 => (if t438 = t427 then ((laws_toProfile.f k l0_0 l0_1 a0_2 a0_3 a0_4).bind fun bt439 => ((laws_eqProfile.f k bt428.1 bt428.2.1 bt428.2.2.1 bt428.2.2.2.1 bt428.2.2.2.2 bt439.1 bt439.2.1 bt439.2.2.1 bt439.2.2.2.1 bt439.2.2.2.2).bind fun t448 => (if t448 = true then (some true) else (some false)))) else (some false)))) = some r:=H
  have A9:=Am A90
  clear A90
  replace H:=Option.bind_eq_some_iff.mp H
  obtain ⟨⟨t428,t431,t434,t435,t436⟩,A100,H⟩:=H
  replace H : ((impl_MostNow.f k t428 t431 t434 t435 t436 a1).bind fun t438 => (if t438 = t427 then ((laws_toProfile.f k l0_0 l0_1 a0_2 a0_3 a0_4).bind fun bt439 => ((laws_eqProfile.f k t428 t431 t434 t435 t436 bt439.1 bt439.2.1 bt439.2.2.1 bt439.2.2.2.1 bt439.2.2.2.2).bind fun t448 => (if t448 = true then (some true) else (some false)))) else (some false))) = some r:=H
  have A10:=Am A100
  clear A100
  replace H:=Option.bind_eq_some_iff.mp H
  obtain ⟨t438,A110,H⟩:=H
  replace H : (if t438 = t427 then ((laws_toProfile.f k l0_0 l0_1 a0_2 a0_3 a0_4).bind fun bt439 => ((laws_eqProfile.f k t428 t431 t434 t435 t436 bt439.1 bt439.2.1 bt439.2.2.1 bt439.2.2.2.1 bt439.2.2.2.2).bind fun t448 => (if t448 = true then (some true) else (some false)))) else (some false)) = some r:=H
  have A11:=Am A110
  clear A110
  by_cases c12 : t438 = t427
  ·rw [if_pos c12] at H
   have c12b0 : (t438 == t427) = true:=beq_iff_eq.mpr c12
   have c12b1 : (t438 != t427) = false:=bne_eq_false_iff_eq.mpr c12
   clear c12
   replace H:=Option.bind_eq_some_iff.mp H
   obtain ⟨⟨t439,t442,t445,t446,t447⟩,A130,H⟩:=H
   replace H : ((laws_eqProfile.f k t428 t431 t434 t435 t436 t439 t442 t445 t446 t447).bind fun t448 => (if t448 = true then (some true) else (some false))) = some r:=H
   have A13:=Am A130
   clear A130
   replace H:=Option.bind_eq_some_iff.mp H
   obtain ⟨t448,A140,H⟩:=H
   replace H : (if t448 = true then (some true) else (some false)) = some r:=H
   have A14:=Am A140
   clear A140
   by_cases c15 : t448 = true
   ·subst c15
    have H1 : (some true) = some r:=by rw [if_pos rfl] at H;exact H
    clear H
    have H:=H1
    clear H1
    obtain rfl:=Option.some.inj H
    go_enter Try.func9,Try.ntmps9
    try go_wp2_with (first|((with_reducible refine gate_dst (N:=2) rfl ?_);refine box_event ?hg (N:=2) ?hd (cs:=#[.slice A0_0 l0_0.length c0_0,.slice A0_1 l0_1.length c0_1,.int .i64 a0_2,.int .i64 a0_3,.int .i64 a0_4]) (t:=25) ?hr ?_;(case hd => rfl);(case hg => rfl);(case hr => first|(go_simp;done)|(go_simp;rfl));intro gb416 hg w16 hbox hb;have n0_:=Am (below_step (by repeat (first|(with_reducible first|exact HB.out|apply bA|apply bN|apply bD)|exact HB.out)) hb);have n1_:=Am (hbox);have n2_:=Am ((by rw [hg];exact (below_size (by repeat (first|(with_reducible first|exact HB.out|apply bA|apply bN|apply bD)|exact HB.out))) : w.heap.size ≤ gb416));have n3_:=Am ((by rw [hg];exact (below_size (by repeat (first|(with_reducible first|exact HB.out|apply bA|apply bN|apply bD)|exact HB.out))) : w.heap.size ≤ gb416));clear HB;have HB:=n0_;have BK416:=n1_;have GW416:=n2_;have GE416:=n3_;clear n0_ n1_ n2_ n3_;clear hb hbox hg;have hcz17_0 : w16.cell? ⟨gb416,0,none⟩ = some (.slice A0_0 l0_0.length c0_0):=(kC BK416.out 0).trans rfl;have hcz17_1 : w16.cell? ⟨gb416,1,none⟩ = some (.slice A0_1 l0_1.length c0_1):=(kC BK416.out 1).trans rfl;have hcz17_2 : w16.cell? ⟨gb416,2,none⟩ = some (.int .i64 a0_2):=(kC BK416.out 2).trans rfl;have hcz17_3 : w16.cell? ⟨gb416,3,none⟩ = some (.int .i64 a0_3):=(kC BK416.out 3).trans rfl;have hcz17_4 : w16.cell? ⟨gb416,4,none⟩ = some (.int .i64 a0_4):=(kC BK416.out 4).trans rfl;have hfz17_0:=kF BK416.out 0;have hfz17_1:=kF BK416.out 1;have hfz17_2:=kF BK416.out 2;have hfz17_3:=kF BK416.out 3;have hfz17_4:=kF BK416.out 4)|((with_reducible refine gate_callee (f:=14) rfl ?_);refine goesL_ (some 11) rfl rfl Try.func14 (by kernel_rfl) rfl #[.agg #[.slice A0_0 l0_0.length c0_0,.slice A0_1 l0_1.length c0_1,.int .i64 a0_2,.int .i64 a0_3,.int .i64 a0_4],.int .i64 1048576] rfl (by (try simp only [List.map_toArray,List.map_cons,List.map_nil]);first|done|rfl|(simp only [List.length_drop,List.length_take];rfl)) ?_;(with_reducible refine (laws_szProfile.calls _ _ l0_0 _ _ l0_1 a0_2 a0_3 a0_4 1048576 t417 _ ?side1 ?side2 ?side3 ?side4 A3.out).mono ?_);(case side1 => repeat (first|exact (Kd.C_below HR0_0.out HB.out)|(with_reducible refine Kd.C_alloc ?_ _)|(with_reducible refine Kd.C_drewN ?_ _)|(with_reducible refine Kd.C_drew ?_)));(case side2 => exact HC0_0.out);(case side3 => repeat (first|exact (Kd.C_below HR0_1.out HB.out)|(with_reducible refine Kd.C_alloc ?_ _)|(with_reducible refine Kd.C_drewN ?_ _)|(with_reducible refine Kd.C_drew ?_)));(case side4 => exact HC0_1.out);rintro e w18 ⟨rfl,hb⟩;refine ⟨_,rfl,?_⟩;have n0_:=Am (blk_below (g:=gb416) (o:=.cells #[.slice A0_0 l0_0.length c0_0,.slice A0_1 l0_1.length c0_1,.int .i64 a0_2,.int .i64 a0_3,.int .i64 a0_4] 25 (0,0)) (by (with_reducible repeat (first|refine kN ?_ _|refine kD ?_|refine kA ?_ _));exact BK416.out) hb);have n1_:=Am (below_step (by repeat (first|(with_reducible first|exact HB.out|apply bA|apply bN|apply bD|refine bS ?_ GE416.out)|exact HB.out)) hb);clear BK416;clear HB;have BK416:=n0_;have HB:=n1_;clear n0_ n1_;(try clear hb);(try clear hb2);(try clear hk);(try clear hi);have hcz19_0 : w18.cell? ⟨gb416,0,none⟩ = some (.slice A0_0 l0_0.length c0_0):=(kC BK416.out 0).trans rfl;have hcz19_1 : w18.cell? ⟨gb416,1,none⟩ = some (.slice A0_1 l0_1.length c0_1):=(kC BK416.out 1).trans rfl;have hcz19_2 : w18.cell? ⟨gb416,2,none⟩ = some (.int .i64 a0_2):=(kC BK416.out 2).trans rfl;have hcz19_3 : w18.cell? ⟨gb416,3,none⟩ = some (.int .i64 a0_3):=(kC BK416.out 3).trans rfl;have hcz19_4 : w18.cell? ⟨gb416,4,none⟩ = some (.int .i64 a0_4):=(kC BK416.out 4).trans rfl;have hfz19_0:=kF BK416.out 0;have hfz19_1:=kF BK416.out 1;have hfz19_2:=kF BK416.out 2;have hfz19_3:=kF BK416.out 3;have hfz19_4:=kF BK416.out 4)|((with_reducible refine gate_callee (f:=16) rfl ?_);refine goesL_ (some 15) rfl rfl Try.func16 (by kernel_rfl) rfl #[.agg #[.slice A0_0 l0_0.length c0_0,.slice A0_1 l0_1.length c0_1,.int .i64 a0_2,.int .i64 a0_3,.int .i64 a0_4]] rfl (by (try simp only [List.map_toArray,List.map_cons,List.map_nil]);first|done|rfl|(simp only [List.length_drop,List.length_take];rfl)) ?_;(with_reducible refine (laws_toProfile.calls k _ _ l0_0 _ _ l0_1 a0_2 a0_3 a0_4 t418 t421 t424 t425 t426 _ ?side1 ?side2 ?side3 ?side4 A8.out).mono ?_);(case side1 => repeat (first|exact (Kd.C_below HR0_0.out HB.out)|(with_reducible refine Kd.C_alloc ?_ _)|(with_reducible refine Kd.C_drewN ?_ _)|(with_reducible refine Kd.C_drew ?_)));(case side2 => exact HC0_0.out);(case side3 => repeat (first|exact (Kd.C_below HR0_1.out HB.out)|(with_reducible refine Kd.C_alloc ?_ _)|(with_reducible refine Kd.C_drewN ?_ _)|(with_reducible refine Kd.C_drew ?_)));(case side4 => exact HC0_1.out);rintro e w20 ⟨v419,v422,rfl,ho0,ho1,hb⟩;refine ⟨_,rfl,?_⟩;have n0_:=Am (Kd.R_lower ho0 (below_size (by repeat (first|(with_reducible first|exact HB.out|apply bA|apply bN|apply bD|refine bS ?_ GE416.out)|exact HB.out))));have n1_:=Am (Kd.R_lower ho1 (below_size (by repeat (first|(with_reducible first|exact HB.out|apply bA|apply bN|apply bD|refine bS ?_ GE416.out)|exact HB.out))));have n2_:=Am (blk_below (g:=gb416) (o:=.cells #[.slice A0_0 l0_0.length c0_0,.slice A0_1 l0_1.length c0_1,.int .i64 a0_2,.int .i64 a0_3,.int .i64 a0_4] 25 (0,0)) (by (with_reducible repeat (first|refine kN ?_ _|refine kD ?_|refine kA ?_ _));exact BK416.out) hb);have n3_:=Am (below_step (by repeat (first|(with_reducible first|exact HB.out|apply bA|apply bN|apply bD|refine bS ?_ GE416.out)|exact HB.out)) hb);clear BK416;clear HB;have HO420:=n0_;have HO423:=n1_;have BK416:=n2_;have HB:=n3_;clear n0_ n1_ n2_ n3_;(try clear hb);(try clear hb2);(try clear hk);(try clear hi);(try clear ho0);(try clear ho1);obtain ⟨Ao21,co21,eo21⟩:=Kd.R_slice HO420.out;subst eo21;obtain ⟨Ao22,co22,eo22⟩:=Kd.R_slice HO423.out;subst eo22)|((with_reducible refine gate_callee (f:=31) rfl ?_);refine goesL_ (some 17) rfl rfl Try.func31 (by kernel_rfl) rfl #[.agg #[.slice Ao21 t418.length co21,.slice Ao22 t421.length co22,.int .i64 t424,.int .i64 t425,.int .i64 t426],.int .i64 a1] rfl (by (try simp only [List.map_toArray,List.map_cons,List.map_nil]);first|done|rfl|(simp only [List.length_drop,List.length_take];rfl)) ?_;(with_reducible refine (spec_MostNow.calls k _ _ t418 _ _ t421 t424 t425 t426 a1 t427 _ ?side1 ?side2 ?side3 ?side4 A9.out).mono ?_);(case side1 => repeat (first|exact (Kd.R_reads' HO420.out).2.2|(with_reducible refine Kd.C_alloc ?_ _)|(with_reducible refine Kd.C_drewN ?_ _)|(with_reducible refine Kd.C_drew ?_)));(case side2 => exact (Kd.R_reads' HO420.out).2.1);(case side3 => repeat (first|exact (Kd.R_reads' HO423.out).2.2|(with_reducible refine Kd.C_alloc ?_ _)|(with_reducible refine Kd.C_drewN ?_ _)|(with_reducible refine Kd.C_drew ?_)));(case side4 => exact (Kd.R_reads' HO423.out).2.1);rintro e w23 ⟨rfl,hb⟩;refine ⟨_,rfl,?_⟩;have n0_:=Am (Kd.R_below (by (with_reducible repeat (first|apply Kd.R_alloc|apply Kd.R_drewN|apply Kd.R_drew));exact HO420.out) hb);have n1_:=Am (Kd.R_below (by (with_reducible repeat (first|apply Kd.R_alloc|apply Kd.R_drewN|apply Kd.R_drew));exact HO423.out) hb);have n2_:=Am (blk_below (g:=gb416) (o:=.cells #[.slice A0_0 l0_0.length c0_0,.slice A0_1 l0_1.length c0_1,.int .i64 a0_2,.int .i64 a0_3,.int .i64 a0_4] 25 (0,0)) (by (with_reducible repeat (first|refine kN ?_ _|refine kD ?_|refine kA ?_ _));exact BK416.out) hb);have n3_:=Am (below_step (by repeat (first|(with_reducible first|exact HB.out|apply bA|apply bN|apply bD|refine bS ?_ GE416.out)|exact HB.out)) hb);clear HO420;clear HO423;clear BK416;clear HB;have HO420:=n0_;have HO423:=n1_;have BK416:=n2_;have HB:=n3_;clear n0_ n1_ n2_ n3_;(try clear hb);(try clear hb2);(try clear hk);(try clear hi);have hcz24_0 : w23.cell? ⟨gb416,0,none⟩ = some (.slice A0_0 l0_0.length c0_0):=(kC BK416.out 0).trans rfl;have hcz24_1 : w23.cell? ⟨gb416,1,none⟩ = some (.slice A0_1 l0_1.length c0_1):=(kC BK416.out 1).trans rfl;have hcz24_2 : w23.cell? ⟨gb416,2,none⟩ = some (.int .i64 a0_2):=(kC BK416.out 2).trans rfl;have hcz24_3 : w23.cell? ⟨gb416,3,none⟩ = some (.int .i64 a0_3):=(kC BK416.out 3).trans rfl;have hcz24_4 : w23.cell? ⟨gb416,4,none⟩ = some (.int .i64 a0_4):=(kC BK416.out 4).trans rfl;have hfz24_0:=kF BK416.out 0;have hfz24_1:=kF BK416.out 1;have hfz24_2:=kF BK416.out 2;have hfz24_3:=kF BK416.out 3;have hfz24_4:=kF BK416.out 4)|((with_reducible refine gate_callee (f:=16) rfl ?_);refine goesL_ (some 19) rfl rfl Try.func16 (by kernel_rfl) rfl #[.agg #[.slice A0_0 l0_0.length c0_0,.slice A0_1 l0_1.length c0_1,.int .i64 a0_2,.int .i64 a0_3,.int .i64 a0_4]] rfl (by (try simp only [List.map_toArray,List.map_cons,List.map_nil]);first|done|rfl|(simp only [List.length_drop,List.length_take];rfl)) ?_;(with_reducible refine (laws_toProfile.calls k _ _ l0_0 _ _ l0_1 a0_2 a0_3 a0_4 t428 t431 t434 t435 t436 _ ?side1 ?side2 ?side3 ?side4 A10.out).mono ?_);(case side1 => repeat (first|exact (Kd.C_below HR0_0.out HB.out)|(with_reducible refine Kd.C_alloc ?_ _)|(with_reducible refine Kd.C_drewN ?_ _)|(with_reducible refine Kd.C_drew ?_)));(case side2 => exact HC0_0.out);(case side3 => repeat (first|exact (Kd.C_below HR0_1.out HB.out)|(with_reducible refine Kd.C_alloc ?_ _)|(with_reducible refine Kd.C_drewN ?_ _)|(with_reducible refine Kd.C_drew ?_)));(case side4 => exact HC0_1.out);rintro e w25 ⟨v429,v432,rfl,ho0,ho1,hb⟩;refine ⟨_,rfl,?_⟩;have n0_:=Am (Kd.R_elder' (by (with_reducible repeat (first|apply Kd.R_alloc|apply Kd.R_drewN|apply Kd.R_drew));exact HO420.out) (Kd.R_base ho0) hb);have n1_:=Am (Kd.R_elder' (by (with_reducible repeat (first|apply Kd.R_alloc|apply Kd.R_drewN|apply Kd.R_drew));exact HO423.out) (Kd.R_base ho1) hb);have n2_:=Am (Kd.R_lower (Kd.R_new' ho0 (Kd.R_lt (by (with_reducible repeat (first|apply Kd.R_alloc|apply Kd.R_drewN|apply Kd.R_drew));exact HO420.out))) (below_size (by repeat (first|(with_reducible first|exact HB.out|apply bA|apply bN|apply bD|refine bS ?_ GE416.out)|exact HB.out))));have n3_:=Am (Kd.R_lower (Kd.R_new' ho1 (Kd.R_lt (by (with_reducible repeat (first|apply Kd.R_alloc|apply Kd.R_drewN|apply Kd.R_drew));exact HO423.out))) (below_size (by repeat (first|(with_reducible first|exact HB.out|apply bA|apply bN|apply bD|refine bS ?_ GE416.out)|exact HB.out))));have n4_:=Am (blk_below (g:=gb416) (o:=.cells #[.slice A0_0 l0_0.length c0_0,.slice A0_1 l0_1.length c0_1,.int .i64 a0_2,.int .i64 a0_3,.int .i64 a0_4] 25 (0,0)) (by (with_reducible repeat (first|refine kN ?_ _|refine kD ?_|refine kA ?_ _));exact BK416.out) hb);have n5_:=Am (below_step (by repeat (first|(with_reducible first|exact HB.out|apply bA|apply bN|apply bD|refine bS ?_ GE416.out)|exact HB.out)) hb);clear HO420;clear HO423;clear BK416;clear HB;have HO420:=n0_;have HO423:=n1_;have HO430:=n2_;have HO433:=n3_;have BK416:=n4_;have HB:=n5_;clear n0_ n1_ n2_ n3_ n4_ n5_;(try clear hb);(try clear hb2);(try clear hk);(try clear hi);(try clear ho0);(try clear ho1))|((with_reducible refine gate_dst (N:=7) rfl ?_);refine box_event ?hg (N:=7) ?hd (cs:=#[.slice none 0 0,.slice none 0 0,.int .i64 0,.int .i64 0,.int .i64 0]) (t:=31) ?hr ?_;(case hd => rfl);(case hg => rfl);(case hr => first|(go_simp;done)|(go_simp;rfl));intro gb437 hg w26 hbox hb;have n0_:=Am (Kd.R_below (by (with_reducible repeat (first|apply Kd.R_alloc|apply Kd.R_drewN|apply Kd.R_drew));exact HO420.out) hb);have n1_:=Am (Kd.R_below (by (with_reducible repeat (first|apply Kd.R_alloc|apply Kd.R_drewN|apply Kd.R_drew));exact HO423.out) hb);have n2_:=Am (Kd.R_below (by (with_reducible repeat (first|apply Kd.R_alloc|apply Kd.R_drewN|apply Kd.R_drew));exact HO430.out) hb);have n3_:=Am (Kd.R_below (by (with_reducible repeat (first|apply Kd.R_alloc|apply Kd.R_drewN|apply Kd.R_drew));exact HO433.out) hb);have n4_:=Am (blk_below (g:=gb416) (o:=.cells #[.slice A0_0 l0_0.length c0_0,.slice A0_1 l0_1.length c0_1,.int .i64 a0_2,.int .i64 a0_3,.int .i64 a0_4] 25 (0,0)) (by (with_reducible repeat (first|refine kN ?_ _|refine kD ?_|refine kA ?_ _));exact BK416.out) hb);have n5_:=Am (below_step (by repeat (first|(with_reducible first|exact HB.out|apply bA|apply bN|apply bD|refine bS ?_ GE416.out)|exact HB.out)) hb);have n6_:=Am (hbox);have n7_:=Am ((by rw [hg];exact (below_size (by repeat (first|(with_reducible first|exact HB.out|apply bA|apply bN|apply bD|refine bS ?_ GE416.out)|exact HB.out))) : w.heap.size ≤ gb437));have n8_:=Am ((by rw [hg];exact (below_size (by repeat (first|(with_reducible first|exact HB.out|apply bA|apply bN|apply bD|refine bS ?_ GE416.out)|exact HB.out))) : w.heap.size ≤ gb437));have n9_:=Am ((by rw [hg];exact Nat.ne_of_lt (blk_lt (g:=gb416) (o:=.cells #[.slice A0_0 l0_0.length c0_0,.slice A0_1 l0_1.length c0_1,.int .i64 a0_2,.int .i64 a0_3,.int .i64 a0_4] 25 (0,0)) (by (with_reducible repeat (first|refine kN ?_ _|refine kD ?_|refine kA ?_ _));exact BK416.out)) : gb416 ≠ gb437));have n10_:=Am ((by rw [hg];exact Nat.ne_of_gt (blk_lt (g:=gb416) (o:=.cells #[.slice A0_0 l0_0.length c0_0,.slice A0_1 l0_1.length c0_1,.int .i64 a0_2,.int .i64 a0_3,.int .i64 a0_4] 25 (0,0)) (by (with_reducible repeat (first|refine kN ?_ _|refine kD ?_|refine kA ?_ _));exact BK416.out)) : gb437 ≠ gb416));clear HO420;clear HO423;clear HO430;clear HO433;clear BK416;clear HB;have HO420:=n0_;have HO423:=n1_;have HO430:=n2_;have HO433:=n3_;have BK416:=n4_;have HB:=n5_;have BK437:=n6_;have GW437:=n7_;have GE437:=n8_;have NB416_437:=n9_;have NB437_416:=n10_;clear n0_ n1_ n2_ n3_ n4_ n5_ n6_ n7_ n8_ n9_ n10_;clear hb hbox hg;obtain ⟨Ao27,co27,eo27⟩:=Kd.R_slice HO430.out;subst eo27;have hnb28:=NB437_416.out;have hnc28:=NB416_437.out;have hcz29_0 : w26.cell? ⟨gb437,0,none⟩ = some (.slice none 0 0):=(kC BK437.out 0).trans rfl;have hcz29_1 : w26.cell? ⟨gb437,1,none⟩ = some (.slice none 0 0):=(kC BK437.out 1).trans rfl;have hcz29_2 : w26.cell? ⟨gb437,2,none⟩ = some (.int .i64 0):=(kC BK437.out 2).trans rfl;have hcz29_3 : w26.cell? ⟨gb437,3,none⟩ = some (.int .i64 0):=(kC BK437.out 3).trans rfl;have hcz29_4 : w26.cell? ⟨gb437,4,none⟩ = some (.int .i64 0):=(kC BK437.out 4).trans rfl;have hfz29_0:=kF BK437.out 0;have hfz29_1:=kF BK437.out 1;have hfz29_2:=kF BK437.out 2;have hfz29_3:=kF BK437.out 3;have hfz29_4:=kF BK437.out 4;obtain ⟨Ao30,co30,eo30⟩:=Kd.R_slice HO433.out;subst eo30)|((with_reducible refine gate_callee (f:=32) rfl ?_);refine goesL_ (some 22) rfl rfl Try.func32 (by kernel_rfl) rfl #[.agg #[.slice Ao27 t428.length co27,.slice Ao30 t431.length co30,.int .i64 t434,.int .i64 t435,.int .i64 t436],.int .i64 a1] rfl (by (try simp only [List.map_toArray,List.map_cons,List.map_nil]);first|done|rfl|(simp only [List.length_drop,List.length_take];rfl)) ?_;(with_reducible refine (impl_MostNow.calls k _ _ t428 _ _ t431 t434 t435 t436 a1 t438 _ ?side1 ?side2 ?side3 ?side4 A11.out).mono ?_);(case side1 => refine (Kd.R_reads' (e:=71) (base:=w.heap.size) (ok:=fun k_ => (True∧some k_ ≠ (.slice Ao21 t418.length co21 : Value).ownBlock)) (n:=t428.length) (c:=co27) ?_).2.2;exact (by (with_reducible repeat (first|apply Kd.R_alloc|apply Kd.R_drewN|apply Kd.R_drew));exact (Kd.R_mono (Kd.R_far (p:=⟨gb437,4,none⟩) (Kd.R_far (p:=⟨gb437,3,none⟩) (Kd.R_far (p:=⟨gb437,2,none⟩) (Kd.R_far (p:=⟨gb437,1,none⟩) (Kd.R_far (p:=⟨gb437,0,none⟩) (Kd.R_types HO430.out BK437.out (by decide)) (fun _ hk => hk.2) (.slice Ao27 t428.length co27)) (fun _ hk => hk.2) (.slice Ao30 t431.length co30)) (fun _ hk => hk.2) (.int .i64 t434)) (fun _ hk => hk.2) (.int .i64 t435)) (fun _ hk => hk.2) (.int .i64 t436)) (fun _ h_ => h_.1))));(case side2 => exact (Kd.R_reads' HO430.out).2.1);(case side3 => refine (Kd.R_reads' (e:=75) (base:=w.heap.size) (ok:=fun k_ => (True∧some k_ ≠ (.slice Ao22 t421.length co22 : Value).ownBlock)) (n:=t431.length) (c:=co30) ?_).2.2;exact (by (with_reducible repeat (first|apply Kd.R_alloc|apply Kd.R_drewN|apply Kd.R_drew));exact (Kd.R_mono (Kd.R_far (p:=⟨gb437,4,none⟩) (Kd.R_far (p:=⟨gb437,3,none⟩) (Kd.R_far (p:=⟨gb437,2,none⟩) (Kd.R_far (p:=⟨gb437,1,none⟩) (Kd.R_far (p:=⟨gb437,0,none⟩) (Kd.R_types HO433.out BK437.out (by decide)) (fun _ hk => hk.2) (.slice Ao27 t428.length co27)) (fun _ hk => hk.2) (.slice Ao30 t431.length co30)) (fun _ hk => hk.2) (.int .i64 t434)) (fun _ hk => hk.2) (.int .i64 t435)) (fun _ hk => hk.2) (.int .i64 t436)) (fun _ h_ => h_.1))));(case side4 => exact (Kd.R_reads' HO433.out).2.1);rintro e w31 ⟨rfl,hb⟩;refine ⟨_,rfl,?_⟩;have n0_:=Am (Kd.R_below (by (with_reducible repeat (first|apply Kd.R_alloc|apply Kd.R_drewN|apply Kd.R_drew));exact (Kd.R_mono (Kd.R_far (p:=⟨gb437,4,none⟩) (Kd.R_far (p:=⟨gb437,3,none⟩) (Kd.R_far (p:=⟨gb437,2,none⟩) (Kd.R_far (p:=⟨gb437,1,none⟩) (Kd.R_far (p:=⟨gb437,0,none⟩) (Kd.R_types HO420.out BK437.out (by decide)) (fun _ hk => hk.2) (.slice Ao27 t428.length co27)) (fun _ hk => hk.2) (.slice Ao30 t431.length co30)) (fun _ hk => hk.2) (.int .i64 t434)) (fun _ hk => hk.2) (.int .i64 t435)) (fun _ hk => hk.2) (.int .i64 t436)) (fun _ h_ => h_.1))) hb);have n1_:=Am (Kd.R_below (by (with_reducible repeat (first|apply Kd.R_alloc|apply Kd.R_drewN|apply Kd.R_drew));exact (Kd.R_mono (Kd.R_far (p:=⟨gb437,4,none⟩) (Kd.R_far (p:=⟨gb437,3,none⟩) (Kd.R_far (p:=⟨gb437,2,none⟩) (Kd.R_far (p:=⟨gb437,1,none⟩) (Kd.R_far (p:=⟨gb437,0,none⟩) (Kd.R_types HO423.out BK437.out (by decide)) (fun _ hk => hk.2) (.slice Ao27 t428.length co27)) (fun _ hk => hk.2) (.slice Ao30 t431.length co30)) (fun _ hk => hk.2) (.int .i64 t434)) (fun _ hk => hk.2) (.int .i64 t435)) (fun _ hk => hk.2) (.int .i64 t436)) (fun _ h_ => h_.1))) hb);have n2_:=Am (Kd.R_below (by (with_reducible repeat (first|apply Kd.R_alloc|apply Kd.R_drewN|apply Kd.R_drew));exact (Kd.R_mono (Kd.R_far (p:=⟨gb437,4,none⟩) (Kd.R_far (p:=⟨gb437,3,none⟩) (Kd.R_far (p:=⟨gb437,2,none⟩) (Kd.R_far (p:=⟨gb437,1,none⟩) (Kd.R_far (p:=⟨gb437,0,none⟩) (Kd.R_types HO430.out BK437.out (by decide)) (fun _ hk => hk.2) (.slice Ao27 t428.length co27)) (fun _ hk => hk.2) (.slice Ao30 t431.length co30)) (fun _ hk => hk.2) (.int .i64 t434)) (fun _ hk => hk.2) (.int .i64 t435)) (fun _ hk => hk.2) (.int .i64 t436)) (fun _ h_ => h_.1))) hb);have n3_:=Am (Kd.R_below (by (with_reducible repeat (first|apply Kd.R_alloc|apply Kd.R_drewN|apply Kd.R_drew));exact (Kd.R_mono (Kd.R_far (p:=⟨gb437,4,none⟩) (Kd.R_far (p:=⟨gb437,3,none⟩) (Kd.R_far (p:=⟨gb437,2,none⟩) (Kd.R_far (p:=⟨gb437,1,none⟩) (Kd.R_far (p:=⟨gb437,0,none⟩) (Kd.R_types HO433.out BK437.out (by decide)) (fun _ hk => hk.2) (.slice Ao27 t428.length co27)) (fun _ hk => hk.2) (.slice Ao30 t431.length co30)) (fun _ hk => hk.2) (.int .i64 t434)) (fun _ hk => hk.2) (.int .i64 t435)) (fun _ hk => hk.2) (.int .i64 t436)) (fun _ h_ => h_.1))) hb);have n4_:=Am (blk_below (g:=gb416) (o:=.cells #[.slice A0_0 l0_0.length c0_0,.slice A0_1 l0_1.length c0_1,.int .i64 a0_2,.int .i64 a0_3,.int .i64 a0_4] 25 (0,0)) (by (with_reducible repeat (first|refine kN ?_ _|refine kD ?_|refine kA ?_ _));refine blk_far ?_ NB416_437.out _;(with_reducible repeat (first|refine kN ?_ _|refine kD ?_|refine kA ?_ _));refine blk_far ?_ NB416_437.out _;(with_reducible repeat (first|refine kN ?_ _|refine kD ?_|refine kA ?_ _));refine blk_far ?_ NB416_437.out _;(with_reducible repeat (first|refine kN ?_ _|refine kD ?_|refine kA ?_ _));refine blk_far ?_ NB416_437.out _;(with_reducible repeat (first|refine kN ?_ _|refine kD ?_|refine kA ?_ _));refine blk_far ?_ NB416_437.out _;(with_reducible repeat (first|refine kN ?_ _|refine kD ?_|refine kA ?_ _));exact BK416.out) hb);have n5_:=Am (blk_below (g:=gb437) (o:=.cells #[.slice Ao27 t428.length co27,.slice Ao30 t431.length co30,.int .i64 t434,.int .i64 t435,.int .i64 t436] 31 (0,0)) (by (with_reducible repeat (first|refine kN ?_ _|refine kD ?_|refine kA ?_ _));refine blk_put (cs:=#[.slice Ao27 t428.length co27,.slice Ao30 t431.length co30,.int .i64 t434,.int .i64 t435,.int .i64 0]) ?_ 4 _ rfl;(with_reducible repeat (first|refine kN ?_ _|refine kD ?_|refine kA ?_ _));refine blk_put (cs:=#[.slice Ao27 t428.length co27,.slice Ao30 t431.length co30,.int .i64 t434,.int .i64 0,.int .i64 0]) ?_ 3 _ rfl;(with_reducible repeat (first|refine kN ?_ _|refine kD ?_|refine kA ?_ _));refine blk_put (cs:=#[.slice Ao27 t428.length co27,.slice Ao30 t431.length co30,.int .i64 0,.int .i64 0,.int .i64 0]) ?_ 2 _ rfl;(with_reducible repeat (first|refine kN ?_ _|refine kD ?_|refine kA ?_ _));refine blk_put (cs:=#[.slice Ao27 t428.length co27,.slice none 0 0,.int .i64 0,.int .i64 0,.int .i64 0]) ?_ 1 _ rfl;(with_reducible repeat (first|refine kN ?_ _|refine kD ?_|refine kA ?_ _));refine blk_put (cs:=#[.slice none 0 0,.slice none 0 0,.int .i64 0,.int .i64 0,.int .i64 0]) ?_ 0 _ rfl;(with_reducible repeat (first|refine kN ?_ _|refine kD ?_|refine kA ?_ _));exact BK437.out) hb);have n6_:=Am (below_step (by repeat (first|(with_reducible first|exact HB.out|apply bA|apply bN|apply bD|refine bS ?_ GE416.out|refine bS ?_ GE437.out)|exact HB.out)) hb);clear HO420;clear HO423;clear HO430;clear HO433;clear BK416;clear BK437;clear HB;have HO420:=n0_;have HO423:=n1_;have HO430:=n2_;have HO433:=n3_;have BK416:=n4_;have BK437:=n5_;have HB:=n6_;clear n0_ n1_ n2_ n3_ n4_ n5_ n6_;(try clear hb);(try clear hb2);(try clear hk);(try clear hi)))
    have n0_:=Am (Kd.R_drew HO420.out)
    have n1_:=Am (Kd.R_drew HO423.out)
    have n2_:=Am (Kd.R_drew HO430.out)
    have n3_:=Am (Kd.R_drew HO433.out)
    have n4_:=Am (kD BK416.out)
    have n5_:=Am (kD BK437.out)
    have n6_:=Am (bD HB.out)
    clear HO420
    clear HO423
    clear HO430
    clear HO433
    clear BK416
    clear BK437
    clear HB
    have HO420:=n0_
    have HO423:=n1_
    have HO430:=n2_
    have HO433:=n3_
    have BK416:=n4_
    have BK437:=n5_
    have HB:=n6_
    clear n0_ n1_ n2_ n3_ n4_ n5_ n6_
    refine start_ (n:=5) (S:=fun w' => w'.cell? ⟨gb437,0,none⟩ = some (.slice Ao27 t428.length co27)∧w'.cell? ⟨gb437,1,none⟩ = some (.slice Ao30 t431.length co30)∧w'.cell? ⟨gb437,2,none⟩ = some (.int .i64 t434)∧w'.cell? ⟨gb437,3,none⟩ = some (.int .i64 t435)∧w'.cell? ⟨gb437,4,none⟩ = some (.int .i64 t436)∧w'.cell? ⟨gb416,0,none⟩ = some (.slice A0_0 l0_0.length c0_0)∧w'.cell? ⟨gb416,1,none⟩ = some (.slice A0_1 l0_1.length c0_1)∧w'.cell? ⟨gb416,2,none⟩ = some (.int .i64 a0_2)∧w'.cell? ⟨gb416,3,none⟩ = some (.int .i64 a0_3)∧w'.cell? ⟨gb416,4,none⟩ = some (.int .i64 a0_4)) (ds:=[]) #[false,false,false,false,false] (by kernel_rfl) rfl rfl ⟨(kC BK437.out 0).trans rfl,(kC BK437.out 1).trans rfl,(kC BK437.out 2).trans rfl,(kC BK437.out 3).trans rfl,(kC BK437.out 4).trans rfl,(kC BK416.out 0).trans rfl,(kC BK416.out 1).trans rfl,(kC BK416.out 2).trans rfl,(kC BK416.out 3).trans rfl,(kC BK416.out 4).trans rfl⟩ (fun hHeld => ?_)
    generalize w31.drew = w32 at HO420 HO423 HO430 HO433 BK416 BK437 HB hHeld ⊢
    refine take_ (i:=0) (N:=some 26) (v:=?_) (a':=?_) #[true,false,false,false,false] rfl rfl (by kernel_rfl) (fun _ _ _ h => h) (Or.inl ⟨by rfl,?_⟩) hHeld ?_ ?_
    rotate_left
    ·rintro w' ⟨s0,s1,s2,s3,s4,s5,s6,s7,s8,s9⟩
     go_simp
     with_reducible rfl
    rotate_left
    ·simp only [Act.put,pS]
     rfl
    refine take_ (i:=1) (N:=some 27) (v:=?_) (a':=?_) #[true,true,false,false,false] rfl rfl (by kernel_rfl) (fun _ _ _ h => h) (Or.inl ⟨by rfl,?_⟩) hHeld ?_ ?_
    rotate_left
    ·rintro w' ⟨s0,s1,s2,s3,s4,s5,s6,s7,s8,s9⟩
     go_simp
     with_reducible rfl
    rotate_left
    ·simp only [Act.put,pS]
     rfl
    refine one_ (i:=2) (N:=some 28) #[true,true,true,false,false] rfl rfl (by kernel_rfl) (by decide) (fun K hK => ?_)
    refine goes_ Try.func16 (by kernel_rfl) rfl #[.agg #[.slice A0_0 l0_0.length c0_0,.slice A0_1 l0_1.length c0_1,.int .i64 a0_2,.int .i64 a0_3,.int .i64 a0_4]] (by rfl) rfl rfl (by (try simp only [List.map_toArray,List.map_cons,List.map_nil]);first|done|rfl|(simp only [List.length_drop,List.length_take];rfl)) ?_
    with_reducible refine (laws_toProfile.calls k _ _ l0_0 _ _ l0_1 a0_2 a0_3 a0_4 t439 t442 t445 t446 t447 _ ?side1 ?side2 ?side3 ?side4 A13.out).mono ?_
    (case side1 => repeat (first|exact (Kd.C_below HR0_0.out HB.out)|(with_reducible refine Kd.C_alloc ?_ _)|(with_reducible refine Kd.C_drewN ?_ _)|(with_reducible refine Kd.C_drew ?_)))
    (case side2 => exact HC0_0.out)
    (case side3 => repeat (first|exact (Kd.C_below HR0_1.out HB.out)|(with_reducible refine Kd.C_alloc ?_ _)|(with_reducible refine Kd.C_drewN ?_ _)|(with_reducible refine Kd.C_drew ?_)))
    (case side4 => exact HC0_1.out)
    rintro e w33 ⟨v440,v443,rfl,ho0,ho1,hb⟩
    refine ⟨_,rfl,?_⟩
    have n0_:=Am (Kd.R_elder' (by (with_reducible repeat (first|apply Kd.R_alloc|apply Kd.R_drewN|apply Kd.R_drew));exact HO420.out) (Kd.R_base ho0) hb)
    have n1_:=Am (Kd.R_elder' (by (with_reducible repeat (first|apply Kd.R_alloc|apply Kd.R_drewN|apply Kd.R_drew));exact HO423.out) (Kd.R_base ho1) hb)
    have n2_:=Am (Kd.R_elder' (by (with_reducible repeat (first|apply Kd.R_alloc|apply Kd.R_drewN|apply Kd.R_drew));exact HO430.out) (Kd.R_base ho0) hb)
    have n3_:=Am (Kd.R_elder' (by (with_reducible repeat (first|apply Kd.R_alloc|apply Kd.R_drewN|apply Kd.R_drew));exact HO433.out) (Kd.R_base ho1) hb)
    have n4_:=Am (Kd.R_lower (Kd.R_new' (Kd.R_new' ho0 (Kd.R_lt (by (with_reducible repeat (first|apply Kd.R_alloc|apply Kd.R_drewN|apply Kd.R_drew));exact HO420.out))) (Kd.R_lt (by (with_reducible repeat (first|apply Kd.R_alloc|apply Kd.R_drewN|apply Kd.R_drew));exact HO430.out))) (below_size (by repeat (first|(with_reducible first|exact HB.out|apply bA|apply bN|apply bD|refine bS ?_ GE416.out|refine bS ?_ GE437.out)|exact HB.out))))
    have n5_:=Am (Kd.R_lower (Kd.R_new' (Kd.R_new' ho1 (Kd.R_lt (by (with_reducible repeat (first|apply Kd.R_alloc|apply Kd.R_drewN|apply Kd.R_drew));exact HO423.out))) (Kd.R_lt (by (with_reducible repeat (first|apply Kd.R_alloc|apply Kd.R_drewN|apply Kd.R_drew));exact HO433.out))) (below_size (by repeat (first|(with_reducible first|exact HB.out|apply bA|apply bN|apply bD|refine bS ?_ GE416.out|refine bS ?_ GE437.out)|exact HB.out))))
    have n6_:=Am (blk_below (g:=gb416) (o:=.cells #[.slice A0_0 l0_0.length c0_0,.slice A0_1 l0_1.length c0_1,.int .i64 a0_2,.int .i64 a0_3,.int .i64 a0_4] 25 (0,0)) (by (with_reducible repeat (first|refine kN ?_ _|refine kD ?_|refine kA ?_ _));exact BK416.out) hb)
    have n7_:=Am (blk_below (g:=gb437) (o:=.cells #[.slice Ao27 t428.length co27,.slice Ao30 t431.length co30,.int .i64 t434,.int .i64 t435,.int .i64 t436] 31 (0,0)) (by (with_reducible repeat (first|refine kN ?_ _|refine kD ?_|refine kA ?_ _));exact BK437.out) hb)
    have n8_:=Am (below_step (by repeat (first|(with_reducible first|exact HB.out|apply bA|apply bN|apply bD|refine bS ?_ GE416.out|refine bS ?_ GE437.out)|exact HB.out)) hb)
    clear HO420
    clear HO423
    clear HO430
    clear HO433
    clear BK416
    clear BK437
    clear HB
    have HO420:=n0_
    have HO423:=n1_
    have HO430:=n2_
    have HO433:=n3_
    have HO441:=n4_
    have HO444:=n5_
    have BK416:=n6_
    have BK437:=n7_
    have HB:=n8_
    clear n0_ n1_ n2_ n3_ n4_ n5_ n6_ n7_ n8_
    (try clear hb)
    (try clear hb2)
    (try clear hk)
    (try clear hi)
    (try clear ho0)
    (try clear ho1)
    obtain ⟨Ao34,co34,eo34⟩:=Kd.R_slice HO441.out
    (first|subst eo34|(injection eo34 with f1_ f2_ f3_;have f4_:=f1_.symm;have f5_:=f3_.symm;clear f1_ f2_ f3_;subst f4_;subst f5_))
    obtain ⟨Ao35,co35,eo35⟩:=Kd.R_slice HO444.out
    (first|subst eo35|(injection eo35 with f1_ f2_ f3_;have f4_:=f1_.symm;have f5_:=f3_.symm;clear f1_ f2_ f3_;subst f4_;subst f5_))
    refine hK.out _ _ ⟨(kC BK437.out 0).trans rfl,(kC BK437.out 1).trans rfl,(kC BK437.out 2).trans rfl,(kC BK437.out 3).trans rfl,(kC BK437.out 4).trans rfl,(kC BK416.out 0).trans rfl,(kC BK416.out 1).trans rfl,(kC BK416.out 2).trans rfl,(kC BK416.out 3).trans rfl,(kC BK416.out 4).trans rfl⟩ (fun hHeld => ?_)
    clear hK K
    refine norm_ (a':=?_) ?_ ?_
    rotate_left
    ·show Act.put _ (some 28) _ = _
     simp only [Act.put,pS]
     rfl
    refine one_ (i:=3) (N:=some 29) #[true,true,true,true,false] rfl rfl (by kernel_rfl) (by decide) (fun K hK => ?_)
    refine goes_ Try.func18 (by kernel_rfl) rfl #[.agg #[.slice Ao27 t428.length co27,.slice Ao30 t431.length co30,.int .i64 t434,.int .i64 t435,.int .i64 t436],.agg #[.slice Ao34 t439.length co34,.slice Ao35 t442.length co35,.int .i64 t445,.int .i64 t446,.int .i64 t447]] (by rfl) rfl rfl (by (try simp only [List.map_toArray,List.map_cons,List.map_nil]);first|done|rfl|(simp only [List.length_drop,List.length_take];rfl)) ?_
    with_reducible refine (laws_eqProfile.calls k _ _ t428 _ _ t431 t434 t435 t436 _ _ t439 _ _ t442 t445 t446 t447 true _ ?side1 ?side2 ?side3 ?side4 ?side5 ?side6 ?side7 ?side8 A14.out).mono ?_
    (case side1 => repeat (first|exact (Kd.R_reads' HO430.out).2.2|(with_reducible refine Kd.C_alloc ?_ _)|(with_reducible refine Kd.C_drewN ?_ _)|(with_reducible refine Kd.C_drew ?_)))
    (case side2 => exact (Kd.R_reads' HO430.out).2.1)
    (case side3 => repeat (first|exact (Kd.R_reads' HO433.out).2.2|(with_reducible refine Kd.C_alloc ?_ _)|(with_reducible refine Kd.C_drewN ?_ _)|(with_reducible refine Kd.C_drew ?_)))
    (case side4 => exact (Kd.R_reads' HO433.out).2.1)
    (case side5 => repeat (first|exact (Kd.R_reads' HO441.out).2.2|(with_reducible refine Kd.C_alloc ?_ _)|(with_reducible refine Kd.C_drewN ?_ _)|(with_reducible refine Kd.C_drew ?_)))
    (case side6 => exact (Kd.R_reads' HO441.out).2.1)
    (case side7 => repeat (first|exact (Kd.R_reads' HO444.out).2.2|(with_reducible refine Kd.C_alloc ?_ _)|(with_reducible refine Kd.C_drewN ?_ _)|(with_reducible refine Kd.C_drew ?_)))
    (case side8 => exact (Kd.R_reads' HO444.out).2.1)
    rintro e w36 ⟨rfl,hb⟩
    refine ⟨_,rfl,?_⟩
    have n0_:=Am (Kd.R_below (by (with_reducible repeat (first|apply Kd.R_alloc|apply Kd.R_drewN|apply Kd.R_drew));exact HO420.out) hb)
    have n1_:=Am (Kd.R_below (by (with_reducible repeat (first|apply Kd.R_alloc|apply Kd.R_drewN|apply Kd.R_drew));exact HO423.out) hb)
    have n2_:=Am (Kd.R_below (by (with_reducible repeat (first|apply Kd.R_alloc|apply Kd.R_drewN|apply Kd.R_drew));exact HO430.out) hb)
    have n3_:=Am (Kd.R_below (by (with_reducible repeat (first|apply Kd.R_alloc|apply Kd.R_drewN|apply Kd.R_drew));exact HO433.out) hb)
    have n4_:=Am (Kd.R_below (by (with_reducible repeat (first|apply Kd.R_alloc|apply Kd.R_drewN|apply Kd.R_drew));exact HO441.out) hb)
    have n5_:=Am (Kd.R_below (by (with_reducible repeat (first|apply Kd.R_alloc|apply Kd.R_drewN|apply Kd.R_drew));exact HO444.out) hb)
    have n6_:=Am (blk_below (g:=gb416) (o:=.cells #[.slice A0_0 l0_0.length c0_0,.slice A0_1 l0_1.length c0_1,.int .i64 a0_2,.int .i64 a0_3,.int .i64 a0_4] 25 (0,0)) (by (with_reducible repeat (first|refine kN ?_ _|refine kD ?_|refine kA ?_ _));exact BK416.out) hb)
    have n7_:=Am (blk_below (g:=gb437) (o:=.cells #[.slice Ao27 t428.length co27,.slice Ao30 t431.length co30,.int .i64 t434,.int .i64 t435,.int .i64 t436] 31 (0,0)) (by (with_reducible repeat (first|refine kN ?_ _|refine kD ?_|refine kA ?_ _));exact BK437.out) hb)
    have n8_:=Am (below_step (by repeat (first|(with_reducible first|exact HB.out|apply bA|apply bN|apply bD|refine bS ?_ GE416.out|refine bS ?_ GE437.out)|exact HB.out)) hb)
    clear HO420
    clear HO423
    clear HO430
    clear HO433
    clear HO441
    clear HO444
    clear BK416
    clear BK437
    clear HB
    have HO420:=n0_
    have HO423:=n1_
    have HO430:=n2_
    have HO433:=n3_
    have HO441:=n4_
    have HO444:=n5_
    have BK416:=n6_
    have BK437:=n7_
    have HB:=n8_
    clear n0_ n1_ n2_ n3_ n4_ n5_ n6_ n7_ n8_
    (try clear hb)
    (try clear hb2)
    (try clear hk)
    (try clear hi)
    refine hK.out _ _ ⟨(kC BK437.out 0).trans rfl,(kC BK437.out 1).trans rfl,(kC BK437.out 2).trans rfl,(kC BK437.out 3).trans rfl,(kC BK437.out 4).trans rfl,(kC BK416.out 0).trans rfl,(kC BK416.out 1).trans rfl,(kC BK416.out 2).trans rfl,(kC BK416.out 3).trans rfl,(kC BK416.out 4).trans rfl⟩ (fun hHeld => ?_)
    clear hK K
    refine norm_ (a':=?_) ?_ ?_
    rotate_left
    ·show Act.put _ (some 29) _ = _
     simp only [Act.put,pS]
     rfl
    refine pure_ (i:=4) (N:=some 30) (v:=?_) (a':=?_) #[true,true,true,true,true] rfl rfl (by kernel_rfl) (fun _ _ _ h => h) (Or.inl ⟨by rfl,?_⟩) ?_ ?_
    rotate_left
    ·intro w'
     go_simp
     with_reducible rfl
    rotate_left
    ·simp only [Act.put,pS]
     rfl
    refine done_ (by kernel_rfl) ?_
    try go_wp2
    go_ret
    exact ⟨by first|rfl|(simp [errW_none,errW_some] <;> rfl)|(simp [*,errW_none,errW_some] <;> rfl),by repeat (first|(with_reducible first|exact HB.out|apply bA|apply bN|apply bD|refine bS ?_ GE416.out|refine bS ?_ GE437.out)|exact HB.out)⟩
   ·replace c15:=Bool.eq_false_iff.mpr c15
    subst c15
    have H1 : (some false) = some r:=by rw [if_neg (show ¬ (false = true) by decide)] at H;exact H
    clear H
    have H:=H1
    clear H1
    exact absurd H (by rw [hrt.out];simp)
  ·rw [if_neg c12] at H
   have c12b0 : (t438 == t427) = false:=beq_eq_false_iff_ne.mpr c12
   have c12b1 : (t438 != t427) = true:=bne_iff_ne.mpr c12
   exact absurd H (by rw [hrt.out];simp)

end Go.Proofs.Ytgakkndbcilclaa.PA
