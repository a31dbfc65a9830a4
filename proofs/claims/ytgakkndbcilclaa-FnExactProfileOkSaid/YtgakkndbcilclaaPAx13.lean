-- Written by a program of this session (wip/print/myprint.py) over the kit's print, with contracts of its own; not a text of print.sh's.
import Derived.Test.YtgakkndbcilclaaPAx0
import Derived.Test.YtgakkndbcilclaaPAx1
import Derived.Test.YtgakkndbcilclaaPAx3
import Derived.Test.YtgakkndbcilclaaPAx5
import Derived.Test.YtgakkndbcilclaaPAx7
import Derived.Test.YtgakkndbcilclaaPAx12
namespace Go.Proofs.Ytgakkndbcilclaa.PA
open Go.RowKit Go.Proofs.YtgakkndbcilclaaW.PrintWords Go.Proofs.YtgakkndbcilclaaW.PrintLast Go.Proofs.YtgakkndbcilclaaW.PrintMore
attribute [local go_sem] max2_int min2_int max_two min_two   -- for this text's walks alone
set_option linter.unusedVariables false
set_option linter.unusedSimpArgs false

/-! ### laws_FnExactProfileOk: function 3 -/
def laws_FnExactProfileOk.f (k : Nat) (l0_0 : List (S107)) (l0_1 : List (S109)) (a0_2 : Int) (a0_3 : Int) (a0_4 : Int) : Option (Bool):=(laws_szProfile.f l0_0 l0_1 a0_2 a0_3 a0_4 1048576).bind fun t169 => (if t169 < 0 then (some true) else ((laws_toProfile.f k l0_0 l0_1 a0_2 a0_3 a0_4).bind fun bt170 => ((spec_ProfileOk.f k bt170.1 bt170.2.1 bt170.2.2.1 bt170.2.2.2.1 bt170.2.2.2.2).bind fun t179 => ((laws_toProfile.f k l0_0 l0_1 a0_2 a0_3 a0_4).bind fun bt180 => ((impl_ProfileOk.f bt180.1 bt180.2.1 bt180.2.2.1 bt180.2.2.2.1 bt180.2.2.2.2).bind fun t190 => (if t190 = t179 then ((laws_toProfile.f k l0_0 l0_1 a0_2 a0_3 a0_4).bind fun bt191 => ((laws_eqProfile.f k bt180.1 bt180.2.1 bt180.2.2.1 bt180.2.2.2.1 bt180.2.2.2.2 bt191.1 bt191.2.1 bt191.2.2.1 bt191.2.2.2.1 bt191.2.2.2.2).bind fun t200 => (if t200 = true then (some true) else (some false)))) else (some false)))))))
theorem laws_FnExactProfileOk.mono : ∀ a0 a1 a2 a3 a4 k,LeO (laws_FnExactProfileOk.f k a0 a1 a2 a3 a4) (laws_FnExactProfileOk.f (k + 1) a0 a1 a2 a3 a4):=by
 intro a0 a1 a2 a3 a4 k
 unfold laws_FnExactProfileOk.f
 repeat' first
   | (with_reducible exact laws_eqProfile.mono _ _ _ _ _ _ _ _ _ _ _)
   | (with_reducible exact laws_toProfile.mono _ _ _ _ _ _)
   | (with_reducible exact spec_ProfileOk.mono _ _ _ _ _ _)
   | (with_reducible exact LeO.refl _)
   | (with_reducible exact LeO.none _)
   | (with_reducible refine LeO.ite ?_ ?_)
   | (with_reducible refine LeO.bind ?_ (fun _ => ?_))
   | exact laws_eqProfile.mono _ _ _ _ _ _ _ _ _ _ _
   | exact laws_toProfile.mono _ _ _ _ _ _
   | exact spec_ProfileOk.mono _ _ _ _ _ _
   | exact LeO.none _
   | refine LeO.ite ?_ ?_
   | refine LeO.bind ?_ (fun _ => ?_)
set_option maxHeartbeats 8000000 in
set_option maxRecDepth 100000 in
theorem laws_FnExactProfileOk.calls (k : Nat) (A0_0 : Option Addr) (c0_0 : Nat) (l0_0 : List (S107)) (A0_1 : Option Addr) (c0_1 : Nat) (l0_1 : List (S109)) (a0_2 : Int) (a0_3 : Int) (a0_4 : Int) (r : Bool) (w : World) (hr0_0 : Kd.C k107 w A0_0 l0_0.length l0_0) (hc0_0 : l0_0.length ≤ c0_0) (hr0_1 : Kd.C k109 w A0_1 l0_1.length l0_1) (hc0_1 : l0_1.length ≤ c0_1) (hrt : As (r = true)) (h : laws_FnExactProfileOk.f k l0_0 l0_1 a0_2 a0_3 a0_4 = some r) :
  Calls Try.prog 3 #[.agg #[.slice A0_0 l0_0.length c0_0,.slice A0_1 l0_1.length c0_1,.int .i64 a0_2,.int .i64 a0_3,.int .i64 a0_4]] w fun e w' => e = .returned (.bool r)∧Below w.heap.size w w':=by
 have hu25:=Try.underlying25
 have hu31:=Try.underlying31
 have HR0_0:=Am hr0_0
 have HC0_0:=Am hc0_0
 clear hr0_0 hc0_0
 have HR0_1:=Am hr0_1
 have HC0_1:=Am hc0_1
 clear hr0_1 hc0_1
 have HB:=Am (Below.refl w.heap.size w)
 have H : ((laws_szProfile.f l0_0 l0_1 a0_2 a0_3 a0_4 1048576).bind fun t169 => (if t169 < 0 then (some true) else ((laws_toProfile.f k l0_0 l0_1 a0_2 a0_3 a0_4).bind fun bt170 => ((spec_ProfileOk.f k bt170.1 bt170.2.1 bt170.2.2.1 bt170.2.2.2.1 bt170.2.2.2.2).bind fun t179 => ((laws_toProfile.f k l0_0 l0_1 a0_2 a0_3 a0_4).bind fun bt180 => ((impl_ProfileOk.f bt180.1 bt180.2.1 bt180.2.2.1 bt180.2.2.2.1 bt180.2.2.2.2).bind fun t190 => (if t190 = t179 then ((laws_toProfile.f k l0_0 l0_1 a0_2 a0_3 a0_4).bind fun bt191 => ((laws_eqProfile.f k bt180.1 bt180.2.1 bt180.2.2.1 bt180.2.2.2.1 bt180.2.2.2.2 bt191.1 bt191.2.1 bt191.2.2.1 bt191.2.2.2.1 bt191.2.2.2.2).bind fun t200 => (if t200 = true then (some true) else (some false)))) else (some false)))))))) = some r:=h
 clear h
 replace H:=Option.bind_eq_some_iff.mp H
 obtain ⟨t169,A20,H⟩:=H
 replace H : (if t169 < 0 then (some true) else ((laws_toProfile.f k l0_0 l0_1 a0_2 a0_3 a0_4).bind fun bt170 => ((spec_ProfileOk.f k bt170.1 bt170.2.1 bt170.2.2.1 bt170.2.2.2.1 bt170.2.2.2.2).bind fun t179 => ((laws_toProfile.f k l0_0 l0_1 a0_2 a0_3 a0_4).bind fun bt180 => ((impl_ProfileOk.f bt180.1 bt180.2.1 bt180.2.2.1 bt180.2.2.2.1 bt180.2.2.2.2).bind fun t190 => (if t190 = t179 then ((laws_toProfile.f k l0_0 l0_1 a0_2 a0_3 a0_4).bind fun bt191 => ((laws_eqProfile.f k bt180.1 bt180.2.1 bt180.2.2.1 bt180.2.2.2.1 bt180.2.2.2.2 bt191.1 bt191.2.1 bt191.2.2.1 bt191.2.2.2.1 bt191.2.2.2.2).bind fun t200 => (if t200 = true then (some true) else (some false)))) else (some false))))))) = some r:=H
 have A2:=Am A20
 clear A20
 by_cases c3 : t169 < 0
 ·rw [if_pos c3] at H
  have c3b0 : decide (t169 < 0) = true:=decide_eq_true c3
  clear c3
  obtain rfl:=Option.some.inj H
  go_enter Try.func3,Try.ntmps3
  go_wp2_with (first|((with_reducible refine gate_dst (N:=1) rfl ?_);refine box_event ?hg (N:=1) ?hd (cs:=#[.slice A0_0 l0_0.length c0_0,.slice A0_1 l0_1.length c0_1,.int .i64 a0_2,.int .i64 a0_3,.int .i64 a0_4]) (t:=25) ?hr ?_;(case hd => rfl);(case hg => rfl);(case hr => first|(go_simp;done)|(go_simp;rfl));intro gb168 hg w4 hbox hb;have n0_:=Am (below_step (by repeat (first|(with_reducible first|exact HB.out|apply bA|apply bN|apply bD)|exact HB.out)) hb);have n1_:=Am (hbox);have n2_:=Am ((by rw [hg];exact (below_size (by repeat (first|(with_reducible first|exact HB.out|apply bA|apply bN|apply bD)|exact HB.out))) : w.heap.size ≤ gb168));have n3_:=Am ((by rw [hg];exact (below_size (by repeat (first|(with_reducible first|exact HB.out|apply bA|apply bN|apply bD)|exact HB.out))) : w.heap.size ≤ gb168));clear HB;have HB:=n0_;have BK168:=n1_;have GW168:=n2_;have GE168:=n3_;clear n0_ n1_ n2_ n3_;clear hb hbox hg;have hcz5_0 : w4.cell? ⟨gb168,0,none⟩ = some (.slice A0_0 l0_0.length c0_0):=(kC BK168.out 0).trans rfl;have hcz5_1 : w4.cell? ⟨gb168,1,none⟩ = some (.slice A0_1 l0_1.length c0_1):=(kC BK168.out 1).trans rfl;have hcz5_2 : w4.cell? ⟨gb168,2,none⟩ = some (.int .i64 a0_2):=(kC BK168.out 2).trans rfl;have hcz5_3 : w4.cell? ⟨gb168,3,none⟩ = some (.int .i64 a0_3):=(kC BK168.out 3).trans rfl;have hcz5_4 : w4.cell? ⟨gb168,4,none⟩ = some (.int .i64 a0_4):=(kC BK168.out 4).trans rfl;have hfz5_0:=kF BK168.out 0;have hfz5_1:=kF BK168.out 1;have hfz5_2:=kF BK168.out 2;have hfz5_3:=kF BK168.out 3;have hfz5_4:=kF BK168.out 4)|((with_reducible refine gate_callee (f:=14) rfl ?_);refine goesL_ (some 9) rfl rfl Try.func14 (by kernel_rfl) rfl #[.agg #[.slice A0_0 l0_0.length c0_0,.slice A0_1 l0_1.length c0_1,.int .i64 a0_2,.int .i64 a0_3,.int .i64 a0_4],.int .i64 1048576] rfl (by (try simp only [List.map_toArray,List.map_cons,List.map_nil]);first|done|rfl|(simp only [List.length_drop,List.length_take];rfl)) ?_;(with_reducible refine (laws_szProfile.calls _ _ l0_0 _ _ l0_1 a0_2 a0_3 a0_4 1048576 t169 _ ?side1 ?side2 ?side3 ?side4 A2.out).mono ?_);(case side1 => repeat (first|exact (Kd.C_below HR0_0.out HB.out)|(with_reducible refine Kd.C_alloc ?_ _)|(with_reducible refine Kd.C_drewN ?_ _)|(with_reducible refine Kd.C_drew ?_)));(case side2 => exact HC0_0.out);(case side3 => repeat (first|exact (Kd.C_below HR0_1.out HB.out)|(with_reducible refine Kd.C_alloc ?_ _)|(with_reducible refine Kd.C_drewN ?_ _)|(with_reducible refine Kd.C_drew ?_)));(case side4 => exact HC0_1.out);rintro e w6 ⟨rfl,hb⟩;refine ⟨_,rfl,?_⟩;have n0_:=Am (blk_below (g:=gb168) (o:=.cells #[.slice A0_0 l0_0.length c0_0,.slice A0_1 l0_1.length c0_1,.int .i64 a0_2,.int .i64 a0_3,.int .i64 a0_4] 25 (0,0)) (by (with_reducible repeat (first|refine kN ?_ _|refine kD ?_|refine kA ?_ _));exact BK168.out) hb);have n1_:=Am (below_step (by repeat (first|(with_reducible first|exact HB.out|apply bA|apply bN|apply bD|refine bS ?_ GE168.out)|exact HB.out)) hb);clear BK168;clear HB;have BK168:=n0_;have HB:=n1_;clear n0_ n1_;(try clear hb);(try clear hb2);(try clear hk);(try clear hi)))
  go_ret
  exact ⟨by first|rfl|(simp [errW_none,errW_some] <;> rfl)|(simp [*,errW_none,errW_some] <;> rfl),by repeat (first|(with_reducible first|exact HB.out|apply bA|apply bN|apply bD|refine bS ?_ GE168.out)|exact HB.out)⟩
 ·rw [if_neg c3] at H
  have c3b0 : decide (t169 < 0) = false:=decide_eq_false c3
  clear c3
  replace H:=Option.bind_eq_some_iff.mp H
  obtain ⟨⟨t170,t173,t176,t177,t178⟩,A70,H⟩:=H
  replace H : ((spec_ProfileOk.f k t170 t173 t176 t177 t178).bind fun t179 => ((laws_toProfile.f k l0_0 l0_1 a0_2 a0_3 a0_4).bind fun bt180 => ((impl_ProfileOk.f bt180.1 bt180.2.1 bt180.2.2.1 bt180.2.2.2.1 bt180.2.2.2.2).bind fun t190 => (if t190 = t179 then ((laws_toProfile.f k l0_0 l0_1 a0_2 a0_3 a0_4).bind fun bt191 => ((laws_eqProfile.f k bt180.1 bt180.2.1 bt180.2.2.1 bt180.2.2.2.1 bt180.2.2.2.2 bt191.1 bt191.2.1 bt191.2.2.1 bt191.2.2.2.1 bt191.2.2.2.2).bind fun t200 => (if t200 = true then (some true) else (some false)))) else (some false))))) = some r:=H
  have A7:=Am A70
  clear A70
  replace H:=Option.bind_eq_some_iff.mp H
  obtain ⟨t179,A80,H⟩:=H
  replace H : ((laws_toProfile.f k l0_0 l0_1 a0_2 a0_3 a0_4).bind fun bt180 => ((impl_ProfileOk.f bt180.1 bt180.2.1 bt180.2.2.1 bt180.2.2.2.1 bt180.2.2.2.2).bind fun t190 => (if t190 = t179 then ((laws_toProfile.f k l0_0 l0_1 a0_2 a0_3 a0_4).bind fun bt191 => ((laws_eqProfile.f k bt180.1 bt180.2.1 bt180.2.2.1 bt180.2.2.2.1 bt180.2.2.2.2 bt191.1 bt191.2.1 bt191.2.2.1 bt191.2.2.2.1 bt191.2.2.2.2).bind fun t200 => (if t200 = true then (some true) else (some false)))) else (some false)))) = some r:=H
  have A8:=Am A80
  clear A80
  replace H:=Option.bind_eq_some_iff.mp H
  obtain ⟨⟨t180,t183,t186,t187,t188⟩,A90,H⟩:=H
  replace H : ((impl_ProfileOk.f t180 t183 t186 t187 t188).bind fun t190 => (if t190 = t179 then ((laws_toProfile.f k l0_0 l0_1 a0_2 a0_3 a0_4).bind fun bt191 => ((laws_eqProfile.f k t180 t183 t186 t187 t188 bt191.1 bt191.2.1 bt191.2.2.1 bt191.2.2.2.1 bt191.2.2.2.2).bind fun t200 => (if t200 = true then (some true) else (some false)))) else (some false))) = some r:=H
  have A9:=Am A90
  clear A90
  replace H:=Option.bind_eq_some_iff.mp H
  obtain ⟨t190,A100,H⟩:=H
  replace H : (if t190 = t179 then ((laws_toProfile.f k l0_0 l0_1 a0_2 a0_3 a0_4).bind fun bt191 => ((laws_eqProfile.f k t180 t183 t186 t187 t188 bt191.1 bt191.2.1 bt191.2.2.1 bt191.2.2.2.1 bt191.2.2.2.2).bind fun t200 => (if t200 = true then (some true) else (some false)))) else (some false)) = some r:=H
  have A10:=Am A100
  clear A100
  by_cases c11 : t190 = t179
  ·rw [if_pos c11] at H
   have c11b0 : (t190 == t179) = true:=beq_iff_eq.mpr c11
   have c11b1 : (t190 != t179) = false:=bne_eq_false_iff_eq.mpr c11
   clear c11
   replace H:=Option.bind_eq_some_iff.mp H
   obtain ⟨⟨t191,t194,t197,t198,t199⟩,A120,H⟩:=H
   replace H : ((laws_eqProfile.f k t180 t183 t186 t187 t188 t191 t194 t197 t198 t199).bind fun t200 => (if t200 = true then (some true) else (some false))) = some r:=H
   have A12:=Am A120
   clear A120
   replace H:=Option.bind_eq_some_iff.mp H
   obtain ⟨t200,A130,H⟩:=H
   replace H : (if t200 = true then (some true) else (some false)) = some r:=H
   have A13:=Am A130
   clear A130
   by_cases c14 : t200 = true
   ·subst c14
    have H1 : (some true) = some r:=by rw [if_pos rfl] at H;exact H
    clear H
    have H:=H1
    clear H1
    obtain rfl:=Option.some.inj H
    go_enter Try.func3,Try.ntmps3
    try go_wp2_with (first|((with_reducible refine gate_dst (N:=1) rfl ?_);refine box_event ?hg (N:=1) ?hd (cs:=#[.slice A0_0 l0_0.length c0_0,.slice A0_1 l0_1.length c0_1,.int .i64 a0_2,.int .i64 a0_3,.int .i64 a0_4]) (t:=25) ?hr ?_;(case hd => rfl);(case hg => rfl);(case hr => first|(go_simp;done)|(go_simp;rfl));intro gb168 hg w15 hbox hb;have n0_:=Am (below_step (by repeat (first|(with_reducible first|exact HB.out|apply bA|apply bN|apply bD)|exact HB.out)) hb);have n1_:=Am (hbox);have n2_:=Am ((by rw [hg];exact (below_size (by repeat (first|(with_reducible first|exact HB.out|apply bA|apply bN|apply bD)|exact HB.out))) : w.heap.size ≤ gb168));have n3_:=Am ((by rw [hg];exact (below_size (by repeat (first|(with_reducible first|exact HB.out|apply bA|apply bN|apply bD)|exact HB.out))) : w.heap.size ≤ gb168));clear HB;have HB:=n0_;have BK168:=n1_;have GW168:=n2_;have GE168:=n3_;clear n0_ n1_ n2_ n3_;clear hb hbox hg;have hcz16_0 : w15.cell? ⟨gb168,0,none⟩ = some (.slice A0_0 l0_0.length c0_0):=(kC BK168.out 0).trans rfl;have hcz16_1 : w15.cell? ⟨gb168,1,none⟩ = some (.slice A0_1 l0_1.length c0_1):=(kC BK168.out 1).trans rfl;have hcz16_2 : w15.cell? ⟨gb168,2,none⟩ = some (.int .i64 a0_2):=(kC BK168.out 2).trans rfl;have hcz16_3 : w15.cell? ⟨gb168,3,none⟩ = some (.int .i64 a0_3):=(kC BK168.out 3).trans rfl;have hcz16_4 : w15.cell? ⟨gb168,4,none⟩ = some (.int .i64 a0_4):=(kC BK168.out 4).trans rfl;have hfz16_0:=kF BK168.out 0;have hfz16_1:=kF BK168.out 1;have hfz16_2:=kF BK168.out 2;have hfz16_3:=kF BK168.out 3;have hfz16_4:=kF BK168.out 4)|((with_reducible refine gate_callee (f:=14) rfl ?_);refine goesL_ (some 9) rfl rfl Try.func14 (by kernel_rfl) rfl #[.agg #[.slice A0_0 l0_0.length c0_0,.slice A0_1 l0_1.length c0_1,.int .i64 a0_2,.int .i64 a0_3,.int .i64 a0_4],.int .i64 1048576] rfl (by (try simp only [List.map_toArray,List.map_cons,List.map_nil]);first|done|rfl|(simp only [List.length_drop,List.length_take];rfl)) ?_;(with_reducible refine (laws_szProfile.calls _ _ l0_0 _ _ l0_1 a0_2 a0_3 a0_4 1048576 t169 _ ?side1 ?side2 ?side3 ?side4 A2.out).mono ?_);(case side1 => repeat (first|exact (Kd.C_below HR0_0.out HB.out)|(with_reducible refine Kd.C_alloc ?_ _)|(with_reducible refine Kd.C_drewN ?_ _)|(with_reducible refine Kd.C_drew ?_)));(case side2 => exact HC0_0.out);(case side3 => repeat (first|exact (Kd.C_below HR0_1.out HB.out)|(with_reducible refine Kd.C_alloc ?_ _)|(with_reducible refine Kd.C_drewN ?_ _)|(with_reducible refine Kd.C_drew ?_)));(case side4 => exact HC0_1.out);rintro e w17 ⟨rfl,hb⟩;refine ⟨_,rfl,?_⟩;have n0_:=Am (blk_below (g:=gb168) (o:=.cells #[.slice A0_0 l0_0.length c0_0,.slice A0_1 l0_1.length c0_1,.int .i64 a0_2,.int .i64 a0_3,.int .i64 a0_4] 25 (0,0)) (by (with_reducible repeat (first|refine kN ?_ _|refine kD ?_|refine kA ?_ _));exact BK168.out) hb);have n1_:=Am (below_step (by repeat (first|(with_reducible first|exact HB.out|apply bA|apply bN|apply bD|refine bS ?_ GE168.out)|exact HB.out)) hb);clear BK168;clear HB;have BK168:=n0_;have HB:=n1_;clear n0_ n1_;(try clear hb);(try clear hb2);(try clear hk);(try clear hi);have hcz18_0 : w17.cell? ⟨gb168,0,none⟩ = some (.slice A0_0 l0_0.length c0_0):=(kC BK168.out 0).trans rfl;have hcz18_1 : w17.cell? ⟨gb168,1,none⟩ = some (.slice A0_1 l0_1.length c0_1):=(kC BK168.out 1).trans rfl;have hcz18_2 : w17.cell? ⟨gb168,2,none⟩ = some (.int .i64 a0_2):=(kC BK168.out 2).trans rfl;have hcz18_3 : w17.cell? ⟨gb168,3,none⟩ = some (.int .i64 a0_3):=(kC BK168.out 3).trans rfl;have hcz18_4 : w17.cell? ⟨gb168,4,none⟩ = some (.int .i64 a0_4):=(kC BK168.out 4).trans rfl;have hfz18_0:=kF BK168.out 0;have hfz18_1:=kF BK168.out 1;have hfz18_2:=kF BK168.out 2;have hfz18_3:=kF BK168.out 3;have hfz18_4:=kF BK168.out 4)|((with_reducible refine gate_callee (f:=16) rfl ?_);refine goesL_ (some 13) rfl rfl Try.func16 (by kernel_rfl) rfl #[.agg #[.slice A0_0 l0_0.length c0_0,.slice A0_1 l0_1.length c0_1,.int .i64 a0_2,.int .i64 a0_3,.int .i64 a0_4]] rfl (by (try simp only [List.map_toArray,List.map_cons,List.map_nil]);first|done|rfl|(simp only [List.length_drop,List.length_take];rfl)) ?_;(with_reducible refine (laws_toProfile.calls k _ _ l0_0 _ _ l0_1 a0_2 a0_3 a0_4 t170 t173 t176 t177 t178 _ ?side1 ?side2 ?side3 ?side4 A7.out).mono ?_);(case side1 => repeat (first|exact (Kd.C_below HR0_0.out HB.out)|(with_reducible refine Kd.C_alloc ?_ _)|(with_reducible refine Kd.C_drewN ?_ _)|(with_reducible refine Kd.C_drew ?_)));(case side2 => exact HC0_0.out);(case side3 => repeat (first|exact (Kd.C_below HR0_1.out HB.out)|(with_reducible refine Kd.C_alloc ?_ _)|(with_reducible refine Kd.C_drewN ?_ _)|(with_reducible refine Kd.C_drew ?_)));(case side4 => exact HC0_1.out);rintro e w19 ⟨v171,v174,rfl,ho0,ho1,hb⟩;refine ⟨_,rfl,?_⟩;have n0_:=Am (Kd.R_lower ho0 (below_size (by repeat (first|(with_reducible first|exact HB.out|apply bA|apply bN|apply bD|refine bS ?_ GE168.out)|exact HB.out))));have n1_:=Am (Kd.R_lower ho1 (below_size (by repeat (first|(with_reducible first|exact HB.out|apply bA|apply bN|apply bD|refine bS ?_ GE168.out)|exact HB.out))));have n2_:=Am (blk_below (g:=gb168) (o:=.cells #[.slice A0_0 l0_0.length c0_0,.slice A0_1 l0_1.length c0_1,.int .i64 a0_2,.int .i64 a0_3,.int .i64 a0_4] 25 (0,0)) (by (with_reducible repeat (first|refine kN ?_ _|refine kD ?_|refine kA ?_ _));exact BK168.out) hb);have n3_:=Am (below_step (by repeat (first|(with_reducible first|exact HB.out|apply bA|apply bN|apply bD|refine bS ?_ GE168.out)|exact HB.out)) hb);clear BK168;clear HB;have HO172:=n0_;have HO175:=n1_;have BK168:=n2_;have HB:=n3_;clear n0_ n1_ n2_ n3_;(try clear hb);(try clear hb2);(try clear hk);(try clear hi);(try clear ho0);(try clear ho1);obtain ⟨Ao20,co20,eo20⟩:=Kd.R_slice HO172.out;subst eo20;obtain ⟨Ao21,co21,eo21⟩:=Kd.R_slice HO175.out;subst eo21)|((with_reducible refine gate_callee (f:=15) rfl ?_);refine goesL_ (some 14) rfl rfl Try.func15 (by kernel_rfl) rfl #[.agg #[.slice Ao20 t170.length co20,.slice Ao21 t173.length co21,.int .i64 t176,.int .i64 t177,.int .i64 t178]] rfl (by (try simp only [List.map_toArray,List.map_cons,List.map_nil]);first|done|rfl|(simp only [List.length_drop,List.length_take];rfl)) ?_;(with_reducible refine (spec_ProfileOk.calls k _ _ t170 _ _ t173 t176 t177 t178 t179 _ ?side1 ?side2 ?side3 ?side4 A8.out).mono ?_);(case side1 => repeat (first|exact (Kd.R_reads' HO172.out).2.2|(with_reducible refine Kd.C_alloc ?_ _)|(with_reducible refine Kd.C_drewN ?_ _)|(with_reducible refine Kd.C_drew ?_)));(case side2 => exact (Kd.R_reads' HO172.out).2.1);(case side3 => repeat (first|exact (Kd.R_reads' HO175.out).2.2|(with_reducible refine Kd.C_alloc ?_ _)|(with_reducible refine Kd.C_drewN ?_ _)|(with_reducible refine Kd.C_drew ?_)));(case side4 => exact (Kd.R_reads' HO175.out).2.1);rintro e w22 ⟨rfl,hb⟩;refine ⟨_,rfl,?_⟩;have n0_:=Am (Kd.R_below (by (with_reducible repeat (first|apply Kd.R_alloc|apply Kd.R_drewN|apply Kd.R_drew));exact HO172.out) hb);have n1_:=Am (Kd.R_below (by (with_reducible repeat (first|apply Kd.R_alloc|apply Kd.R_drewN|apply Kd.R_drew));exact HO175.out) hb);have n2_:=Am (blk_below (g:=gb168) (o:=.cells #[.slice A0_0 l0_0.length c0_0,.slice A0_1 l0_1.length c0_1,.int .i64 a0_2,.int .i64 a0_3,.int .i64 a0_4] 25 (0,0)) (by (with_reducible repeat (first|refine kN ?_ _|refine kD ?_|refine kA ?_ _));exact BK168.out) hb);have n3_:=Am (below_step (by repeat (first|(with_reducible first|exact HB.out|apply bA|apply bN|apply bD|refine bS ?_ GE168.out)|exact HB.out)) hb);clear HO172;clear HO175;clear BK168;clear HB;have HO172:=n0_;have HO175:=n1_;have BK168:=n2_;have HB:=n3_;clear n0_ n1_ n2_ n3_;(try clear hb);(try clear hb2);(try clear hk);(try clear hi);have hcz23_0 : w22.cell? ⟨gb168,0,none⟩ = some (.slice A0_0 l0_0.length c0_0):=(kC BK168.out 0).trans rfl;have hcz23_1 : w22.cell? ⟨gb168,1,none⟩ = some (.slice A0_1 l0_1.length c0_1):=(kC BK168.out 1).trans rfl;have hcz23_2 : w22.cell? ⟨gb168,2,none⟩ = some (.int .i64 a0_2):=(kC BK168.out 2).trans rfl;have hcz23_3 : w22.cell? ⟨gb168,3,none⟩ = some (.int .i64 a0_3):=(kC BK168.out 3).trans rfl;have hcz23_4 : w22.cell? ⟨gb168,4,none⟩ = some (.int .i64 a0_4):=(kC BK168.out 4).trans rfl;have hfz23_0:=kF BK168.out 0;have hfz23_1:=kF BK168.out 1;have hfz23_2:=kF BK168.out 2;have hfz23_3:=kF BK168.out 3;have hfz23_4:=kF BK168.out 4)|((with_reducible refine gate_callee (f:=16) rfl ?_);refine goesL_ (some 16) rfl rfl Try.func16 (by kernel_rfl) rfl #[.agg #[.slice A0_0 l0_0.length c0_0,.slice A0_1 l0_1.length c0_1,.int .i64 a0_2,.int .i64 a0_3,.int .i64 a0_4]] rfl (by (try simp only [List.map_toArray,List.map_cons,List.map_nil]);first|done|rfl|(simp only [List.length_drop,List.length_take];rfl)) ?_;(with_reducible refine (laws_toProfile.calls k _ _ l0_0 _ _ l0_1 a0_2 a0_3 a0_4 t180 t183 t186 t187 t188 _ ?side1 ?side2 ?side3 ?side4 A9.out).mono ?_);(case side1 => repeat (first|exact (Kd.C_below HR0_0.out HB.out)|(with_reducible refine Kd.C_alloc ?_ _)|(with_reducible refine Kd.C_drewN ?_ _)|(with_reducible refine Kd.C_drew ?_)));(case side2 => exact HC0_0.out);(case side3 => repeat (first|exact (Kd.C_below HR0_1.out HB.out)|(with_reducible refine Kd.C_alloc ?_ _)|(with_reducible refine Kd.C_drewN ?_ _)|(with_reducible refine Kd.C_drew ?_)));(case side4 => exact HC0_1.out);rintro e w24 ⟨v181,v184,rfl,ho0,ho1,hb⟩;refine ⟨_,rfl,?_⟩;have n0_:=Am (Kd.R_elder' (by (with_reducible repeat (first|apply Kd.R_alloc|apply Kd.R_drewN|apply Kd.R_drew));exact HO172.out) (Kd.R_base ho0) hb);have n1_:=Am (Kd.R_elder' (by (with_reducible repeat (first|apply Kd.R_alloc|apply Kd.R_drewN|apply Kd.R_drew));exact HO175.out) (Kd.R_base ho1) hb);have n2_:=Am (Kd.R_lower (Kd.R_new' ho0 (Kd.R_lt (by (with_reducible repeat (first|apply Kd.R_alloc|apply Kd.R_drewN|apply Kd.R_drew));exact HO172.out))) (below_size (by repeat (first|(with_reducible first|exact HB.out|apply bA|apply bN|apply bD|refine bS ?_ GE168.out)|exact HB.out))));have n3_:=Am (Kd.R_lower (Kd.R_new' ho1 (Kd.R_lt (by (with_reducible repeat (first|apply Kd.R_alloc|apply Kd.R_drewN|apply Kd.R_drew));exact HO175.out))) (below_size (by repeat (first|(with_reducible first|exact HB.out|apply bA|apply bN|apply bD|refine bS ?_ GE168.out)|exact HB.out))));have n4_:=Am (blk_below (g:=gb168) (o:=.cells #[.slice A0_0 l0_0.length c0_0,.slice A0_1 l0_1.length c0_1,.int .i64 a0_2,.int .i64 a0_3,.int .i64 a0_4] 25 (0,0)) (by (with_reducible repeat (first|refine kN ?_ _|refine kD ?_|refine kA ?_ _));exact BK168.out) hb);have n5_:=Am (below_step (by repeat (first|(with_reducible first|exact HB.out|apply bA|apply bN|apply bD|refine bS ?_ GE168.out)|exact HB.out)) hb);clear HO172;clear HO175;clear BK168;clear HB;have HO172:=n0_;have HO175:=n1_;have HO182:=n2_;have HO185:=n3_;have BK168:=n4_;have HB:=n5_;clear n0_ n1_ n2_ n3_ n4_ n5_;(try clear hb);(try clear hb2);(try clear hk);(try clear hi);(try clear ho0);(try clear ho1))|((with_reducible refine gate_dst (N:=5) rfl ?_);refine box_event ?hg (N:=5) ?hd (cs:=#[.slice none 0 0,.slice none 0 0,.int .i64 0,.int .i64 0,.int .i64 0]) (t:=31) ?hr ?_;(case hd => rfl);(case hg => rfl);(case hr => first|(go_simp;done)|(go_simp;rfl));intro gb189 hg w25 hbox hb;have n0_:=Am (Kd.R_below (by (with_reducible repeat (first|apply Kd.R_alloc|apply Kd.R_drewN|apply Kd.R_drew));exact HO172.out) hb);have n1_:=Am (Kd.R_below (by (with_reducible repeat (first|apply Kd.R_alloc|apply Kd.R_drewN|apply Kd.R_drew));exact HO175.out) hb);have n2_:=Am (Kd.R_below (by (with_reducible repeat (first|apply Kd.R_alloc|apply Kd.R_drewN|apply Kd.R_drew));exact HO182.out) hb);have n3_:=Am (Kd.R_below (by (with_reducible repeat (first|apply Kd.R_alloc|apply Kd.R_drewN|apply Kd.R_drew));exact HO185.out) hb);have n4_:=Am (blk_below (g:=gb168) (o:=.cells #[.slice A0_0 l0_0.length c0_0,.slice A0_1 l0_1.length c0_1,.int .i64 a0_2,.int .i64 a0_3,.int .i64 a0_4] 25 (0,0)) (by (with_reducible repeat (first|refine kN ?_ _|refine kD ?_|refine kA ?_ _));exact BK168.out) hb);have n5_:=Am (below_step (by repeat (first|(with_reducible first|exact HB.out|apply bA|apply bN|apply bD|refine bS ?_ GE168.out)|exact HB.out)) hb);have n6_:=Am (hbox);have n7_:=Am ((by rw [hg];exact (below_size (by repeat (first|(with_reducible first|exact HB.out|apply bA|apply bN|apply bD|refine bS ?_ GE168.out)|exact HB.out))) : w.heap.size ≤ gb189));have n8_:=Am ((by rw [hg];exact (below_size (by repeat (first|(with_reducible first|exact HB.out|apply bA|apply bN|apply bD|refine bS ?_ GE168.out)|exact HB.out))) : w.heap.size ≤ gb189));have n9_:=Am ((by rw [hg];exact Nat.ne_of_lt (blk_lt (g:=gb168) (o:=.cells #[.slice A0_0 l0_0.length c0_0,.slice A0_1 l0_1.length c0_1,.int .i64 a0_2,.int .i64 a0_3,.int .i64 a0_4] 25 (0,0)) (by (with_reducible repeat (first|refine kN ?_ _|refine kD ?_|refine kA ?_ _));exact BK168.out)) : gb168 ≠ gb189));have n10_:=Am ((by rw [hg];exact Nat.ne_of_gt (blk_lt (g:=gb168) (o:=.cells #[.slice A0_0 l0_0.length c0_0,.slice A0_1 l0_1.length c0_1,.int .i64 a0_2,.int .i64 a0_3,.int .i64 a0_4] 25 (0,0)) (by (with_reducible repeat (first|refine kN ?_ _|refine kD ?_|refine kA ?_ _));exact BK168.out)) : gb189 ≠ gb168));clear HO172;clear HO175;clear HO182;clear HO185;clear BK168;clear HB;have HO172:=n0_;have HO175:=n1_;have HO182:=n2_;have HO185:=n3_;have BK168:=n4_;have HB:=n5_;have BK189:=n6_;have GW189:=n7_;have GE189:=n8_;have NB168_189:=n9_;have NB189_168:=n10_;clear n0_ n1_ n2_ n3_ n4_ n5_ n6_ n7_ n8_ n9_ n10_;clear hb hbox hg;obtain ⟨Ao26,co26,eo26⟩:=Kd.R_slice HO182.out;subst eo26;have hnb27:=NB189_168.out;have hnc27:=NB168_189.out;have hcz28_0 : w25.cell? ⟨gb189,0,none⟩ = some (.slice none 0 0):=(kC BK189.out 0).trans rfl;have hcz28_1 : w25.cell? ⟨gb189,1,none⟩ = some (.slice none 0 0):=(kC BK189.out 1).trans rfl;have hcz28_2 : w25.cell? ⟨gb189,2,none⟩ = some (.int .i64 0):=(kC BK189.out 2).trans rfl;have hcz28_3 : w25.cell? ⟨gb189,3,none⟩ = some (.int .i64 0):=(kC BK189.out 3).trans rfl;have hcz28_4 : w25.cell? ⟨gb189,4,none⟩ = some (.int .i64 0):=(kC BK189.out 4).trans rfl;have hfz28_0:=kF BK189.out 0;have hfz28_1:=kF BK189.out 1;have hfz28_2:=kF BK189.out 2;have hfz28_3:=kF BK189.out 3;have hfz28_4:=kF BK189.out 4;obtain ⟨Ao29,co29,eo29⟩:=Kd.R_slice HO185.out;subst eo29)|((with_reducible refine gate_callee (f:=17) rfl ?_);refine goesL_ (some 18) rfl rfl Try.func17 (by kernel_rfl) rfl #[.agg #[.slice Ao26 t180.length co26,.slice Ao29 t183.length co29,.int .i64 t186,.int .i64 t187,.int .i64 t188]] rfl (by (try simp only [List.map_toArray,List.map_cons,List.map_nil]);first|done|rfl|(simp only [List.length_drop,List.length_take];rfl)) ?_;(with_reducible refine (impl_ProfileOk.calls _ _ t180 _ _ t183 t186 t187 t188 t190 _ ?side1 ?side2 ?side3 ?side4 A10.out).mono ?_);(case side1 => refine (Kd.R_reads' (e:=71) (base:=w.heap.size) (ok:=fun k_ => (True∧some k_ ≠ (.slice Ao20 t170.length co20 : Value).ownBlock)) (n:=t180.length) (c:=co26) ?_).2.2;exact (by (with_reducible repeat (first|apply Kd.R_alloc|apply Kd.R_drewN|apply Kd.R_drew));exact (Kd.R_mono (Kd.R_far (p:=⟨gb189,4,none⟩) (Kd.R_far (p:=⟨gb189,3,none⟩) (Kd.R_far (p:=⟨gb189,2,none⟩) (Kd.R_far (p:=⟨gb189,1,none⟩) (Kd.R_far (p:=⟨gb189,0,none⟩) (Kd.R_types HO182.out BK189.out (by decide)) (fun _ hk => hk.2) (.slice Ao26 t180.length co26)) (fun _ hk => hk.2) (.slice Ao29 t183.length co29)) (fun _ hk => hk.2) (.int .i64 t186)) (fun _ hk => hk.2) (.int .i64 t187)) (fun _ hk => hk.2) (.int .i64 t188)) (fun _ h_ => h_.1))));(case side2 => exact (Kd.R_reads' HO182.out).2.1);(case side3 => refine (Kd.R_reads' (e:=75) (base:=w.heap.size) (ok:=fun k_ => (True∧some k_ ≠ (.slice Ao21 t173.length co21 : Value).ownBlock)) (n:=t183.length) (c:=co29) ?_).2.2;exact (by (with_reducible repeat (first|apply Kd.R_alloc|apply Kd.R_drewN|apply Kd.R_drew));exact (Kd.R_mono (Kd.R_far (p:=⟨gb189,4,none⟩) (Kd.R_far (p:=⟨gb189,3,none⟩) (Kd.R_far (p:=⟨gb189,2,none⟩) (Kd.R_far (p:=⟨gb189,1,none⟩) (Kd.R_far (p:=⟨gb189,0,none⟩) (Kd.R_types HO185.out BK189.out (by decide)) (fun _ hk => hk.2) (.slice Ao26 t180.length co26)) (fun _ hk => hk.2) (.slice Ao29 t183.length co29)) (fun _ hk => hk.2) (.int .i64 t186)) (fun _ hk => hk.2) (.int .i64 t187)) (fun _ hk => hk.2) (.int .i64 t188)) (fun _ h_ => h_.1))));(case side4 => exact (Kd.R_reads' HO185.out).2.1);rintro e w30 ⟨rfl,hb⟩;refine ⟨_,rfl,?_⟩;have n0_:=Am (Kd.R_below (by (with_reducible repeat (first|apply Kd.R_alloc|apply Kd.R_drewN|apply Kd.R_drew));exact (Kd.R_mono (Kd.R_far (p:=⟨gb189,4,none⟩) (Kd.R_far (p:=⟨gb189,3,none⟩) (Kd.R_far (p:=⟨gb189,2,none⟩) (Kd.R_far (p:=⟨gb189,1,none⟩) (Kd.R_far (p:=⟨gb189,0,none⟩) (Kd.R_types HO172.out BK189.out (by decide)) (fun _ hk => hk.2) (.slice Ao26 t180.length co26)) (fun _ hk => hk.2) (.slice Ao29 t183.length co29)) (fun _ hk => hk.2) (.int .i64 t186)) (fun _ hk => hk.2) (.int .i64 t187)) (fun _ hk => hk.2) (.int .i64 t188)) (fun _ h_ => h_.1))) hb);have n1_:=Am (Kd.R_below (by (with_reducible repeat (first|apply Kd.R_alloc|apply Kd.R_drewN|apply Kd.R_drew));exact (Kd.R_mono (Kd.R_far (p:=⟨gb189,4,none⟩) (Kd.R_far (p:=⟨gb189,3,none⟩) (Kd.R_far (p:=⟨gb189,2,none⟩) (Kd.R_far (p:=⟨gb189,1,none⟩) (Kd.R_far (p:=⟨gb189,0,none⟩) (Kd.R_types HO175.out BK189.out (by decide)) (fun _ hk => hk.2) (.slice Ao26 t180.length co26)) (fun _ hk => hk.2) (.slice Ao29 t183.length co29)) (fun _ hk => hk.2) (.int .i64 t186)) (fun _ hk => hk.2) (.int .i64 t187)) (fun _ hk => hk.2) (.int .i64 t188)) (fun _ h_ => h_.1))) hb);have n2_:=Am (Kd.R_below (by (with_reducible repeat (first|apply Kd.R_alloc|apply Kd.R_drewN|apply Kd.R_drew));exact (Kd.R_mono (Kd.R_far (p:=⟨gb189,4,none⟩) (Kd.R_far (p:=⟨gb189,3,none⟩) (Kd.R_far (p:=⟨gb189,2,none⟩) (Kd.R_far (p:=⟨gb189,1,none⟩) (Kd.R_far (p:=⟨gb189,0,none⟩) (Kd.R_types HO182.out BK189.out (by decide)) (fun _ hk => hk.2) (.slice Ao26 t180.length co26)) (fun _ hk => hk.2) (.slice Ao29 t183.length co29)) (fun _ hk => hk.2) (.int .i64 t186)) (fun _ hk => hk.2) (.int .i64 t187)) (fun _ hk => hk.2) (.int .i64 t188)) (fun _ h_ => h_.1))) hb);have n3_:=Am (Kd.R_below (by (with_reducible repeat (first|apply Kd.R_alloc|apply Kd.R_drewN|apply Kd.R_drew));exact (Kd.R_mono (Kd.R_far (p:=⟨gb189,4,none⟩) (Kd.R_far (p:=⟨gb189,3,none⟩) (Kd.R_far (p:=⟨gb189,2,none⟩) (Kd.R_far (p:=⟨gb189,1,none⟩) (Kd.R_far (p:=⟨gb189,0,none⟩) (Kd.R_types HO185.out BK189.out (by decide)) (fun _ hk => hk.2) (.slice Ao26 t180.length co26)) (fun _ hk => hk.2) (.slice Ao29 t183.length co29)) (fun _ hk => hk.2) (.int .i64 t186)) (fun _ hk => hk.2) (.int .i64 t187)) (fun _ hk => hk.2) (.int .i64 t188)) (fun _ h_ => h_.1))) hb);have n4_:=Am (blk_below (g:=gb168) (o:=.cells #[.slice A0_0 l0_0.length c0_0,.slice A0_1 l0_1.length c0_1,.int .i64 a0_2,.int .i64 a0_3,.int .i64 a0_4] 25 (0,0)) (by (with_reducible repeat (first|refine kN ?_ _|refine kD ?_|refine kA ?_ _));refine blk_far ?_ NB168_189.out _;(with_reducible repeat (first|refine kN ?_ _|refine kD ?_|refine kA ?_ _));refine blk_far ?_ NB168_189.out _;(with_reducible repeat (first|refine kN ?_ _|refine kD ?_|refine kA ?_ _));refine blk_far ?_ NB168_189.out _;(with_reducible repeat (first|refine kN ?_ _|refine kD ?_|refine kA ?_ _));refine blk_far ?_ NB168_189.out _;(with_reducible repeat (first|refine kN ?_ _|refine kD ?_|refine kA ?_ _));refine blk_far ?_ NB168_189.out _;(with_reducible repeat (first|refine kN ?_ _|refine kD ?_|refine kA ?_ _));exact BK168.out) hb);have n5_:=Am (blk_below (g:=gb189) (o:=.cells #[.slice Ao26 t180.length co26,.slice Ao29 t183.length co29,.int .i64 t186,.int .i64 t187,.int .i64 t188] 31 (0,0)) (by (with_reducible repeat (first|refine kN ?_ _|refine kD ?_|refine kA ?_ _));refine blk_put (cs:=#[.slice Ao26 t180.length co26,.slice Ao29 t183.length co29,.int .i64 t186,.int .i64 t187,.int .i64 0]) ?_ 4 _ rfl;(with_reducible repeat (first|refine kN ?_ _|refine kD ?_|refine kA ?_ _));refine blk_put (cs:=#[.slice Ao26 t180.length co26,.slice Ao29 t183.length co29,.int .i64 t186,.int .i64 0,.int .i64 0]) ?_ 3 _ rfl;(with_reducible repeat (first|refine kN ?_ _|refine kD ?_|refine kA ?_ _));refine blk_put (cs:=#[.slice Ao26 t180.length co26,.slice Ao29 t183.length co29,.int .i64 0,.int .i64 0,.int .i64 0]) ?_ 2 _ rfl;(with_reducible repeat (first|refine kN ?_ _|refine kD ?_|refine kA ?_ _));refine blk_put (cs:=#[.slice Ao26 t180.length co26,.slice none 0 0,.int .i64 0,.int .i64 0,.int .i64 0]) ?_ 1 _ rfl;(with_reducible repeat (first|refine kN ?_ _|refine kD ?_|refine kA ?_ _));refine blk_put (cs:=#[.slice none 0 0,.slice none 0 0,.int .i64 0,.int .i64 0,.int .i64 0]) ?_ 0 _ rfl;(with_reducible repeat (first|refine kN ?_ _|refine kD ?_|refine kA ?_ _));exact BK189.out) hb);have n6_:=Am (below_step (by repeat (first|(with_reducible first|exact HB.out|apply bA|apply bN|apply bD|refine bS ?_ GE168.out|refine bS ?_ GE189.out)|exact HB.out)) hb);clear HO172;clear HO175;clear HO182;clear HO185;clear BK168;clear BK189;clear HB;have HO172:=n0_;have HO175:=n1_;have HO182:=n2_;have HO185:=n3_;have BK168:=n4_;have BK189:=n5_;have HB:=n6_;clear n0_ n1_ n2_ n3_ n4_ n5_ n6_;(try clear hb);(try clear hb2);(try clear hk);(try clear hi)))
    have n0_:=Am (Kd.R_drew HO172.out)
    have n1_:=Am (Kd.R_drew HO175.out)
    have n2_:=Am (Kd.R_drew HO182.out)
    have n3_:=Am (Kd.R_drew HO185.out)
    have n4_:=Am (kD BK168.out)
    have n5_:=Am (kD BK189.out)
    have n6_:=Am (bD HB.out)
    clear HO172
    clear HO175
    clear HO182
    clear HO185
    clear BK168
    clear BK189
    clear HB
    have HO172:=n0_
    have HO175:=n1_
    have HO182:=n2_
    have HO185:=n3_
    have BK168:=n4_
    have BK189:=n5_
    have HB:=n6_
    clear n0_ n1_ n2_ n3_ n4_ n5_ n6_
    refine start_ (n:=5) (S:=fun w' => w'.cell? ⟨gb189,0,none⟩ = some (.slice Ao26 t180.length co26)∧w'.cell? ⟨gb189,1,none⟩ = some (.slice Ao29 t183.length co29)∧w'.cell? ⟨gb189,2,none⟩ = some (.int .i64 t186)∧w'.cell? ⟨gb189,3,none⟩ = some (.int .i64 t187)∧w'.cell? ⟨gb189,4,none⟩ = some (.int .i64 t188)∧w'.cell? ⟨gb168,0,none⟩ = some (.slice A0_0 l0_0.length c0_0)∧w'.cell? ⟨gb168,1,none⟩ = some (.slice A0_1 l0_1.length c0_1)∧w'.cell? ⟨gb168,2,none⟩ = some (.int .i64 a0_2)∧w'.cell? ⟨gb168,3,none⟩ = some (.int .i64 a0_3)∧w'.cell? ⟨gb168,4,none⟩ = some (.int .i64 a0_4)) (ds:=[]) #[false,false,false,false,false] (by kernel_rfl) rfl rfl ⟨(kC BK189.out 0).trans rfl,(kC BK189.out 1).trans rfl,(kC BK189.out 2).trans rfl,(kC BK189.out 3).trans rfl,(kC BK189.out 4).trans rfl,(kC BK168.out 0).trans rfl,(kC BK168.out 1).trans rfl,(kC BK168.out 2).trans rfl,(kC BK168.out 3).trans rfl,(kC BK168.out 4).trans rfl⟩ (fun hHeld => ?_)
    generalize w30.drew = w31 at HO172 HO175 HO182 HO185 BK168 BK189 HB hHeld ⊢
    refine take_ (i:=0) (N:=some 22) (v:=?_) (a':=?_) #[true,false,false,false,false] rfl rfl (by kernel_rfl) (fun _ _ _ h => h) (Or.inl ⟨by rfl,?_⟩) hHeld ?_ ?_
    rotate_left
    ·rintro w' ⟨s0,s1,s2,s3,s4,s5,s6,s7,s8,s9⟩
     go_simp
     with_reducible rfl
    rotate_left
    ·simp only [Act.put,pS]
     rfl
    refine take_ (i:=1) (N:=some 23) (v:=?_) (a':=?_) #[true,true,false,false,false] rfl rfl (by kernel_rfl) (fun _ _ _ h => h) (Or.inl ⟨by rfl,?_⟩) hHeld ?_ ?_
    rotate_left
    ·rintro w' ⟨s0,s1,s2,s3,s4,s5,s6,s7,s8,s9⟩
     go_simp
     with_reducible rfl
    rotate_left
    ·simp only [Act.put,pS]
     rfl
    refine one_ (i:=2) (N:=some 24) #[true,true,true,false,false] rfl rfl (by kernel_rfl) (by decide) (fun K hK => ?_)
    refine goes_ Try.func16 (by kernel_rfl) rfl #[.agg #[.slice A0_0 l0_0.length c0_0,.slice A0_1 l0_1.length c0_1,.int .i64 a0_2,.int .i64 a0_3,.int .i64 a0_4]] (by rfl) rfl rfl (by (try simp only [List.map_toArray,List.map_cons,List.map_nil]);first|done|rfl|(simp only [List.length_drop,List.length_take];rfl)) ?_
    with_reducible refine (laws_toProfile.calls k _ _ l0_0 _ _ l0_1 a0_2 a0_3 a0_4 t191 t194 t197 t198 t199 _ ?side1 ?side2 ?side3 ?side4 A12.out).mono ?_
    (case side1 => repeat (first|exact (Kd.C_below HR0_0.out HB.out)|(with_reducible refine Kd.C_alloc ?_ _)|(with_reducible refine Kd.C_drewN ?_ _)|(with_reducible refine Kd.C_drew ?_)))
    (case side2 => exact HC0_0.out)
    (case side3 => repeat (first|exact (Kd.C_below HR0_1.out HB.out)|(with_reducible refine Kd.C_alloc ?_ _)|(with_reducible refine Kd.C_drewN ?_ _)|(with_reducible refine Kd.C_drew ?_)))
    (case side4 => exact HC0_1.out)
    rintro e w32 ⟨v192,v195,rfl,ho0,ho1,hb⟩
    refine ⟨_,rfl,?_⟩
    have n0_:=Am (Kd.R_elder' (by (with_reducible repeat (first|apply Kd.R_alloc|apply Kd.R_drewN|apply Kd.R_drew));exact HO172.out) (Kd.R_base ho0) hb)
    have n1_:=Am (Kd.R_elder' (by (with_reducible repeat (first|apply Kd.R_alloc|apply Kd.R_drewN|apply Kd.R_drew));exact HO175.out) (Kd.R_base ho1) hb)
    have n2_:=Am (Kd.R_elder' (by (with_reducible repeat (first|apply Kd.R_alloc|apply Kd.R_drewN|apply Kd.R_drew));exact HO182.out) (Kd.R_base ho0) hb)
    have n3_:=Am (Kd.R_elder' (by (with_reducible repeat (first|apply Kd.R_alloc|apply Kd.R_drewN|apply Kd.R_drew));exact HO185.out) (Kd.R_base ho1) hb)
    have n4_:=Am (Kd.R_lower (Kd.R_new' (Kd.R_new' ho0 (Kd.R_lt (by (with_reducible repeat (first|apply Kd.R_alloc|apply Kd.R_drewN|apply Kd.R_drew));exact HO172.out))) (Kd.R_lt (by (with_reducible repeat (first|apply Kd.R_alloc|apply Kd.R_drewN|apply Kd.R_drew));exact HO182.out))) (below_size (by repeat (first|(with_reducible first|exact HB.out|apply bA|apply bN|apply bD|refine bS ?_ GE168.out|refine bS ?_ GE189.out)|exact HB.out))))
    have n5_:=Am (Kd.R_lower (Kd.R_new' (Kd.R_new' ho1 (Kd.R_lt (by (with_reducible repeat (first|apply Kd.R_alloc|apply Kd.R_drewN|apply Kd.R_drew));exact HO175.out))) (Kd.R_lt (by (with_reducible repeat (first|apply Kd.R_alloc|apply Kd.R_drewN|apply Kd.R_drew));exact HO185.out))) (below_size (by repeat (first|(with_reducible first|exact HB.out|apply bA|apply bN|apply bD|refine bS ?_ GE168.out|refine bS ?_ GE189.out)|exact HB.out))))
    have n6_:=Am (blk_below (g:=gb168) (o:=.cells #[.slice A0_0 l0_0.length c0_0,.slice A0_1 l0_1.length c0_1,.int .i64 a0_2,.int .i64 a0_3,.int .i64 a0_4] 25 (0,0)) (by (with_reducible repeat (first|refine kN ?_ _|refine kD ?_|refine kA ?_ _));exact BK168.out) hb)
    have n7_:=Am (blk_below (g:=gb189) (o:=.cells #[.slice Ao26 t180.length co26,.slice Ao29 t183.length co29,.int .i64 t186,.int .i64 t187,.int .i64 t188] 31 (0,0)) (by (with_reducible repeat (first|refine kN ?_ _|refine kD ?_|refine kA ?_ _));exact BK189.out) hb)
    have n8_:=Am (below_step (by repeat (first|(with_reducible first|exact HB.out|apply bA|apply bN|apply bD|refine bS ?_ GE168.out|refine bS ?_ GE189.out)|exact HB.out)) hb)
    clear HO172
    clear HO175
    clear HO182
    clear HO185
    clear BK168
    clear BK189
    clear HB
    have HO172:=n0_
    have HO175:=n1_
    have HO182:=n2_
    have HO185:=n3_
    have HO193:=n4_
    have HO196:=n5_
    have BK168:=n6_
    have BK189:=n7_
    have HB:=n8_
    clear n0_ n1_ n2_ n3_ n4_ n5_ n6_ n7_ n8_
    (try clear hb)
    (try clear hb2)
    (try clear hk)
    (try clear hi)
    (try clear ho0)
    (try clear ho1)
    obtain ⟨Ao33,co33,eo33⟩:=Kd.R_slice HO193.out
    (first|subst eo33|(injection eo33 with f1_ f2_ f3_;have f4_:=f1_.symm;have f5_:=f3_.symm;clear f1_ f2_ f3_;subst f4_;subst f5_))
    obtain ⟨Ao34,co34,eo34⟩:=Kd.R_slice HO196.out
    (first|subst eo34|(injection eo34 with f1_ f2_ f3_;have f4_:=f1_.symm;have f5_:=f3_.symm;clear f1_ f2_ f3_;subst f4_;subst f5_))
    refine hK.out _ _ ⟨(kC BK189.out 0).trans rfl,(kC BK189.out 1).trans rfl,(kC BK189.out 2).trans rfl,(kC BK189.out 3).trans rfl,(kC BK189.out 4).trans rfl,(kC BK168.out 0).trans rfl,(kC BK168.out 1).trans rfl,(kC BK168.out 2).trans rfl,(kC BK168.out 3).trans rfl,(kC BK168.out 4).trans rfl⟩ (fun hHeld => ?_)
    clear hK K
    refine norm_ (a':=?_) ?_ ?_
    rotate_left
    ·show Act.put _ (some 24) _ = _
     simp only [Act.put,pS]
     rfl
    refine one_ (i:=3) (N:=some 25) #[true,true,true,true,false] rfl rfl (by kernel_rfl) (by decide) (fun K hK => ?_)
    refine goes_ Try.func18 (by kernel_rfl) rfl #[.agg #[.slice Ao26 t180.length co26,.slice Ao29 t183.length co29,.int .i64 t186,.int .i64 t187,.int .i64 t188],.agg #[.slice Ao33 t191.length co33,.slice Ao34 t194.length co34,.int .i64 t197,.int .i64 t198,.int .i64 t199]] (by rfl) rfl rfl (by (try simp only [List.map_toArray,List.map_cons,List.map_nil]);first|done|rfl|(simp only [List.length_drop,List.length_take];rfl)) ?_
    with_reducible refine (laws_eqProfile.calls k _ _ t180 _ _ t183 t186 t187 t188 _ _ t191 _ _ t194 t197 t198 t199 true _ ?side1 ?side2 ?side3 ?side4 ?side5 ?side6 ?side7 ?side8 A13.out).mono ?_
    (case side1 => repeat (first|exact (Kd.R_reads' HO182.out).2.2|(with_reducible refine Kd.C_alloc ?_ _)|(with_reducible refine Kd.C_drewN ?_ _)|(with_reducible refine Kd.C_drew ?_)))
    (case side2 => exact (Kd.R_reads' HO182.out).2.1)
    (case side3 => repeat (first|exact (Kd.R_reads' HO185.out).2.2|(with_reducible refine Kd.C_alloc ?_ _)|(with_reducible refine Kd.C_drewN ?_ _)|(with_reducible refine Kd.C_drew ?_)))
    (case side4 => exact (Kd.R_reads' HO185.out).2.1)
    (case side5 => repeat (first|exact (Kd.R_reads' HO193.out).2.2|(with_reducible refine Kd.C_alloc ?_ _)|(with_reducible refine Kd.C_drewN ?_ _)|(with_reducible refine Kd.C_drew ?_)))
    (case side6 => exact (Kd.R_reads' HO193.out).2.1)
    (case side7 => repeat (first|exact (Kd.R_reads' HO196.out).2.2|(with_reducible refine Kd.C_alloc ?_ _)|(with_reducible refine Kd.C_drewN ?_ _)|(with_reducible refine Kd.C_drew ?_)))
    (case side8 => exact (Kd.R_reads' HO196.out).2.1)
    rintro e w35 ⟨rfl,hb⟩
    refine ⟨_,rfl,?_⟩
    have n0_:=Am (Kd.R_below (by (with_reducible repeat (first|apply Kd.R_alloc|apply Kd.R_drewN|apply Kd.R_drew));exact HO172.out) hb)
    have n1_:=Am (Kd.R_below (by (with_reducible repeat (first|apply Kd.R_alloc|apply Kd.R_drewN|apply Kd.R_drew));exact HO175.out) hb)
    have n2_:=Am (Kd.R_below (by (with_reducible repeat (first|apply Kd.R_alloc|apply Kd.R_drewN|apply Kd.R_drew));exact HO182.out) hb)
    have n3_:=Am (Kd.R_below (by (with_reducible repeat (first|apply Kd.R_alloc|apply Kd.R_drewN|apply Kd.R_drew));exact HO185.out) hb)
    have n4_:=Am (Kd.R_below (by (with_reducible repeat (first|apply Kd.R_alloc|apply Kd.R_drewN|apply Kd.R_drew));exact HO193.out) hb)
    have n5_:=Am (Kd.R_below (by (with_reducible repeat (first|apply Kd.R_alloc|apply Kd.R_drewN|apply Kd.R_drew));exact HO196.out) hb)
    have n6_:=Am (blk_below (g:=gb168) (o:=.cells #[.slice A0_0 l0_0.length c0_0,.slice A0_1 l0_1.length c0_1,.int .i64 a0_2,.int .i64 a0_3,.int .i64 a0_4] 25 (0,0)) (by (with_reducible repeat (first|refine kN ?_ _|refine kD ?_|refine kA ?_ _));exact BK168.out) hb)
    have n7_:=Am (blk_below (g:=gb189) (o:=.cells #[.slice Ao26 t180.length co26,.slice Ao29 t183.length co29,.int .i64 t186,.int .i64 t187,.int .i64 t188] 31 (0,0)) (by (with_reducible repeat (first|refine kN ?_ _|refine kD ?_|refine kA ?_ _));exact BK189.out) hb)
    have n8_:=Am (below_step (by repeat (first|(with_reducible first|exact HB.out|apply bA|apply bN|apply bD|refine bS ?_ GE168.out|refine bS ?_ GE189.out)|exact HB.out)) hb)
    clear HO172
    clear HO175
    clear HO182
    clear HO185
    clear HO193
    clear HO196
    clear BK168
    clear BK189
    clear HB
    have HO172:=n0_
    have HO175:=n1_
    have HO182:=n2_
    have HO185:=n3_
    have HO193:=n4_
    have HO196:=n5_
    have BK168:=n6_
    have BK189:=n7_
    have HB:=n8_
    clear n0_ n1_ n2_ n3_ n4_ n5_ n6_ n7_ n8_
    (try clear hb)
    (try clear hb2)
    (try clear hk)
    (try clear hi)
    refine hK.out _ _ ⟨(kC BK189.out 0).trans rfl,(kC BK189.out 1).trans rfl,(kC BK189.out 2).trans rfl,(kC BK189.out 3).trans rfl,(kC BK189.out 4).trans rfl,(kC BK168.out 0).trans rfl,(kC BK168.out 1).trans rfl,(kC BK168.out 2).trans rfl,(kC BK168.out 3).trans rfl,(kC BK168.out 4).trans rfl⟩ (fun hHeld => ?_)
    clear hK K
    refine norm_ (a':=?_) ?_ ?_
    rotate_left
    ·show Act.put _ (some 25) _ = _
     simp only [Act.put,pS]
     rfl
    refine pure_ (i:=4) (N:=some 26) (v:=?_) (a':=?_) #[true,true,true,true,true] rfl rfl (by kernel_rfl) (fun _ _ _ h => h) (Or.inl ⟨by rfl,?_⟩) ?_ ?_
    rotate_left
    ·intro w'
     go_simp
     with_reducible rfl
    rotate_left
    ·simp only [Act.put,pS]
     rfl
    refine done_ (by kernel_rfl) ?_
    try go_wp2
    go_ret
    exact ⟨by first|rfl|(simp [errW_none,errW_some] <;> rfl)|(simp [*,errW_none,errW_some] <;> rfl),by repeat (first|(with_reducible first|exact HB.out|apply bA|apply bN|apply bD|refine bS ?_ GE168.out|refine bS ?_ GE189.out)|exact HB.out)⟩
   ·replace c14:=Bool.eq_false_iff.mpr c14
    subst c14
    have H1 : (some false) = some r:=by rw [if_neg (show ¬ (false = true) by decide)] at H;exact H
    clear H
    have H:=H1
    clear H1
    exact absurd H (by rw [hrt.out];simp)
  ·rw [if_neg c11] at H
   have c11b0 : (t190 == t179) = false:=beq_eq_false_iff_ne.mpr c11
   have c11b1 : (t190 != t179) = true:=bne_iff_ne.mpr c11
   exact absurd H (by rw [hrt.out];simp)

end Go.Proofs.Ytgakkndbcilclaa.PA
