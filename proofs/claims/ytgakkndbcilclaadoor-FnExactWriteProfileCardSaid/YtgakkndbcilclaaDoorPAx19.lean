-- Written by a program of this session (wip/print/myprint.py) over the kit's print, with contracts of its own; not a text of print.sh's.
import Derived.Test.YtgakkndbcilclaaDoorPAx0
import Derived.Test.YtgakkndbcilclaaDoorPAx1
import Derived.Test.YtgakkndbcilclaaDoorPAx5
import Derived.Test.YtgakkndbcilclaaDoorPAx7
import Derived.Test.YtgakkndbcilclaaDoorPAx13
import Derived.Test.YtgakkndbcilclaaDoorPAx18
namespace Go.Proofs.YtgakkndbcilclaaDoor.PA
open Go.RowKit Go.Proofs.YtgakkndbcilclaaDoorW.PrintWords Go.Proofs.YtgakkndbcilclaaDoorW.PrintLast Go.Proofs.YtgakkndbcilclaaDoorW.PrintMore
attribute [local go_sem] max2_int min2_int max_two min_two   -- for this text's walks alone
set_option linter.unusedVariables false
set_option linter.unusedSimpArgs false

/-! ### laws_FnExactWriteProfile: function 3 -/
def laws_FnExactWriteProfile.f (k : Nat) (l0_0 : List (S60)) (l0_1 : List (S62)) (a0_2 : Int) (a0_3 : Int) (a0_4 : Int) : Option (Bool):=(laws_szProfile.f l0_0 l0_1 a0_2 a0_3 a0_4 1048576).bind fun t205 => (if t205 < 0 then (some true) else ((laws_toProfile.f k l0_0 l0_1 a0_2 a0_3 a0_4).bind fun bt206 => ((spec_WriteProfile.f k bt206.1 bt206.2.1 bt206.2.2.1 bt206.2.2.2.1 bt206.2.2.2.2).bind fun t215 => ((laws_toProfile.f k l0_0 l0_1 a0_2 a0_3 a0_4).bind fun bt216 => ((impl_WriteProfile.f bt216.1 bt216.2.1 bt216.2.2.1 bt216.2.2.2.1 bt216.2.2.2.2).bind fun t226 => (if t226.toList = t215.toList then ((laws_toProfile.f k l0_0 l0_1 a0_2 a0_3 a0_4).bind fun bt227 => ((laws_eqProfile.f k bt216.1 bt216.2.1 bt216.2.2.1 bt216.2.2.2.1 bt216.2.2.2.2 bt227.1 bt227.2.1 bt227.2.2.1 bt227.2.2.2.1 bt227.2.2.2.2).bind fun t236 => (if t236 = true then (some true) else (some false)))) else (some false)))))))
theorem laws_FnExactWriteProfile.mono : ∀ a0 a1 a2 a3 a4 k,LeO (laws_FnExactWriteProfile.f k a0 a1 a2 a3 a4) (laws_FnExactWriteProfile.f (k + 1) a0 a1 a2 a3 a4):=by
 intro a0 a1 a2 a3 a4 k
 unfold laws_FnExactWriteProfile.f
 repeat' first
   | (with_reducible exact laws_eqProfile.mono _ _ _ _ _ _ _ _ _ _ _)
   | (with_reducible exact laws_toProfile.mono _ _ _ _ _ _)
   | (with_reducible exact spec_WriteProfile.mono _ _ _ _ _ _)
   | (with_reducible exact LeO.refl _)
   | (with_reducible exact LeO.none _)
   | (with_reducible refine LeO.ite ?_ ?_)
   | (with_reducible refine LeO.bind ?_ (fun _ => ?_))
   | exact laws_eqProfile.mono _ _ _ _ _ _ _ _ _ _ _
   | exact laws_toProfile.mono _ _ _ _ _ _
   | exact spec_WriteProfile.mono _ _ _ _ _ _
   | exact LeO.none _
   | refine LeO.ite ?_ ?_
   | refine LeO.bind ?_ (fun _ => ?_)
set_option maxHeartbeats 8000000 in
set_option maxRecDepth 100000 in
theorem laws_FnExactWriteProfile.calls (k : Nat) (A0_0 : Option Addr) (c0_0 : Nat) (l0_0 : List (S60)) (A0_1 : Option Addr) (c0_1 : Nat) (l0_1 : List (S62)) (a0_2 : Int) (a0_3 : Int) (a0_4 : Int) (r : Bool) (w : World) (hr0_0 : Kd.C k60 w A0_0 l0_0.length l0_0) (hc0_0 : l0_0.length ≤ c0_0) (hr0_1 : Kd.C k62 w A0_1 l0_1.length l0_1) (hc0_1 : l0_1.length ≤ c0_1) (htab : Lib.TabIs Tryd.prog w "internal/strconv.uint64pow10" .u64 Lib.pow10Tab) (hrt : As (r = true)) (h : laws_FnExactWriteProfile.f k l0_0 l0_1 a0_2 a0_3 a0_4 = some r) :
  Calls Tryd.prog 3 #[.agg #[.slice A0_0 l0_0.length c0_0,.slice A0_1 l0_1.length c0_1,.int .i64 a0_2,.int .i64 a0_3,.int .i64 a0_4]] w fun e w' => e = .returned (.bool r)∧Below w.heap.size w w':=by
 have hu25:=Tryd.underlying25
 have hu31:=Tryd.underlying31
 have HR0_0:=Am hr0_0
 have HC0_0:=Am hc0_0
 clear hr0_0 hc0_0
 have HR0_1:=Am hr0_1
 have HC0_1:=Am hc0_1
 clear hr0_1 hc0_1
 have HB:=Am (Below.refl w.heap.size w)
 have HTAB:=Am htab
 clear htab
 have H : ((laws_szProfile.f l0_0 l0_1 a0_2 a0_3 a0_4 1048576).bind fun t205 => (if t205 < 0 then (some true) else ((laws_toProfile.f k l0_0 l0_1 a0_2 a0_3 a0_4).bind fun bt206 => ((spec_WriteProfile.f k bt206.1 bt206.2.1 bt206.2.2.1 bt206.2.2.2.1 bt206.2.2.2.2).bind fun t215 => ((laws_toProfile.f k l0_0 l0_1 a0_2 a0_3 a0_4).bind fun bt216 => ((impl_WriteProfile.f bt216.1 bt216.2.1 bt216.2.2.1 bt216.2.2.2.1 bt216.2.2.2.2).bind fun t226 => (if t226.toList = t215.toList then ((laws_toProfile.f k l0_0 l0_1 a0_2 a0_3 a0_4).bind fun bt227 => ((laws_eqProfile.f k bt216.1 bt216.2.1 bt216.2.2.1 bt216.2.2.2.1 bt216.2.2.2.2 bt227.1 bt227.2.1 bt227.2.2.1 bt227.2.2.2.1 bt227.2.2.2.2).bind fun t236 => (if t236 = true then (some true) else (some false)))) else (some false)))))))) = some r:=h
 clear h
 replace H:=Option.bind_eq_some_iff.mp H
 obtain ⟨t205,A20,H⟩:=H
 replace H : (if t205 < 0 then (some true) else ((laws_toProfile.f k l0_0 l0_1 a0_2 a0_3 a0_4).bind fun bt206 => ((spec_WriteProfile.f k bt206.1 bt206.2.1 bt206.2.2.1 bt206.2.2.2.1 bt206.2.2.2.2).bind fun t215 => ((laws_toProfile.f k l0_0 l0_1 a0_2 a0_3 a0_4).bind fun bt216 => ((impl_WriteProfile.f bt216.1 bt216.2.1 bt216.2.2.1 bt216.2.2.2.1 bt216.2.2.2.2).bind fun t226 => (if t226.toList = t215.toList then ((laws_toProfile.f k l0_0 l0_1 a0_2 a0_3 a0_4).bind fun bt227 => ((laws_eqProfile.f k bt216.1 bt216.2.1 bt216.2.2.1 bt216.2.2.2.1 bt216.2.2.2.2 bt227.1 bt227.2.1 bt227.2.2.1 bt227.2.2.2.1 bt227.2.2.2.2).bind fun t236 => (if t236 = true then (some true) else (some false)))) else (some false))))))) = some r:=H
 have A2:=Am A20
 clear A20
 by_cases c3 : t205 < 0
 ·rw [if_pos c3] at H
  have c3b0 : decide (t205 < 0) = true:=decide_eq_true c3
  clear c3
  obtain rfl:=Option.some.inj H
  go_enter Tryd.func3,Tryd.ntmps3
  go_wp2_with (first|((with_reducible refine gate_dst (N:=1) rfl ?_);refine box_event ?hg (N:=1) ?hd (cs:=#[.slice A0_0 l0_0.length c0_0,.slice A0_1 l0_1.length c0_1,.int .i64 a0_2,.int .i64 a0_3,.int .i64 a0_4]) (t:=25) ?hr ?_;(case hd => rfl);(case hg => rfl);(case hr => first|(go_simp;done)|(go_simp;rfl));intro gb204 hg w4 hbox hb;have n0_:=Am (below_step (by repeat (first|(with_reducible first|exact HB.out|apply bA|apply bN|apply bD)|exact HB.out)) hb);have n1_:=Am (hbox);have n2_:=Am ((by rw [hg];exact (below_size (by repeat (first|(with_reducible first|exact HB.out|apply bA|apply bN|apply bD)|exact HB.out))) : w.heap.size ≤ gb204));have n3_:=Am ((by rw [hg];exact (below_size (by repeat (first|(with_reducible first|exact HB.out|apply bA|apply bN|apply bD)|exact HB.out))) : w.heap.size ≤ gb204));clear HB;have HB:=n0_;have BK204:=n1_;have GW204:=n2_;have GE204:=n3_;clear n0_ n1_ n2_ n3_;clear hb hbox hg;have hcz5_0 : w4.cell? ⟨gb204,0,none⟩ = some (.slice A0_0 l0_0.length c0_0):=(kC BK204.out 0).trans rfl;have hcz5_1 : w4.cell? ⟨gb204,1,none⟩ = some (.slice A0_1 l0_1.length c0_1):=(kC BK204.out 1).trans rfl;have hcz5_2 : w4.cell? ⟨gb204,2,none⟩ = some (.int .i64 a0_2):=(kC BK204.out 2).trans rfl;have hcz5_3 : w4.cell? ⟨gb204,3,none⟩ = some (.int .i64 a0_3):=(kC BK204.out 3).trans rfl;have hcz5_4 : w4.cell? ⟨gb204,4,none⟩ = some (.int .i64 a0_4):=(kC BK204.out 4).trans rfl;have hfz5_0:=kF BK204.out 0;have hfz5_1:=kF BK204.out 1;have hfz5_2:=kF BK204.out 2;have hfz5_3:=kF BK204.out 3;have hfz5_4:=kF BK204.out 4)|((with_reducible refine gate_callee (f:=4) rfl ?_);refine goesL_ (some 9) rfl rfl Tryd.func4 (by kernel_rfl) rfl #[.agg #[.slice A0_0 l0_0.length c0_0,.slice A0_1 l0_1.length c0_1,.int .i64 a0_2,.int .i64 a0_3,.int .i64 a0_4],.int .i64 1048576] rfl (by (try simp only [List.map_toArray,List.map_cons,List.map_nil]);first|done|rfl|(simp only [List.length_drop,List.length_take];rfl)) ?_;(with_reducible refine (laws_szProfile.calls _ _ l0_0 _ _ l0_1 a0_2 a0_3 a0_4 1048576 t205 _ ?side1 ?side2 ?side3 ?side4 A2.out).mono ?_);(case side1 => repeat (first|exact (Kd.C_below HR0_0.out HB.out)|(with_reducible refine Kd.C_alloc ?_ _)|(with_reducible refine Kd.C_drewN ?_ _)|(with_reducible refine Kd.C_drew ?_)));(case side2 => exact HC0_0.out);(case side3 => repeat (first|exact (Kd.C_below HR0_1.out HB.out)|(with_reducible refine Kd.C_alloc ?_ _)|(with_reducible refine Kd.C_drewN ?_ _)|(with_reducible refine Kd.C_drew ?_)));(case side4 => exact HC0_1.out);rintro e w6 ⟨rfl,hb⟩;refine ⟨_,rfl,?_⟩;have n0_:=Am (blk_below (g:=gb204) (o:=.cells #[.slice A0_0 l0_0.length c0_0,.slice A0_1 l0_1.length c0_1,.int .i64 a0_2,.int .i64 a0_3,.int .i64 a0_4] 25 (0,0)) (by (with_reducible repeat (first|refine kN ?_ _|refine kD ?_|refine kA ?_ _));exact BK204.out) hb);have n1_:=Am (below_step (by repeat (first|(with_reducible first|exact HB.out|apply bA|apply bN|apply bD|refine bS ?_ GE204.out)|exact HB.out)) hb);clear BK204;clear HB;have BK204:=n0_;have HB:=n1_;clear n0_ n1_;(try clear hb);(try clear hb2);(try clear hk);(try clear hi)))
  go_ret
  exact ⟨by first|rfl|(simp [errW_none,errW_some] <;> rfl)|(simp [*,errW_none,errW_some] <;> rfl),by repeat (first|(with_reducible first|exact HB.out|apply bA|apply bN|apply bD|refine bS ?_ GE204.out)|exact HB.out)⟩
 ·rw [if_neg c3] at H
  have c3b0 : decide (t205 < 0) = false:=decide_eq_false c3
  clear c3
  replace H:=Option.bind_eq_some_iff.mp H
  obtain ⟨⟨t206,t209,t212,t213,t214⟩,A70,H⟩:=H
  replace H : ((spec_WriteProfile.f k t206 t209 t212 t213 t214).bind fun t215 => ((laws_toProfile.f k l0_0 l0_1 a0_2 a0_3 a0_4).bind fun bt216 => ((impl_WriteProfile.f bt216.1 bt216.2.1 bt216.2.2.1 bt216.2.2.2.1 bt216.2.2.2.2).bind fun t226 => (if t226.toList = t215.toList then ((laws_toProfile.f k l0_0 l0_1 a0_2 a0_3 a0_4).bind fun bt227 => ((laws_eqProfile.f k bt216.1 bt216.2.1 bt216.2.2.1 bt216.2.2.2.1 bt216.2.2.2.2 bt227.1 bt227.2.1 bt227.2.2.1 bt227.2.2.2.1 bt227.2.2.2.2).bind fun t236 => (if t236 = true then (some true) else (some false)))) else (some false))))) = some r:=H
  have A7:=Am A70
  clear A70
  replace H:=Option.bind_eq_some_iff.mp H
  obtain ⟨t215,A80,H⟩:=H
  replace H : ((laws_toProfile.f k l0_0 l0_1 a0_2 a0_3 a0_4).bind fun bt216 => ((impl_WriteProfile.f bt216.1 bt216.2.1 bt216.2.2.1 bt216.2.2.2.1 bt216.2.2.2.2).bind fun t226 => (if t226.toList = t215.toList then ((laws_toProfile.f k l0_0 l0_1 a0_2 a0_3 a0_4).bind fun bt227 => ((laws_eqProfile.f k bt216.1 bt216.2.1 bt216.2.2.1 bt216.2.2.2.1 bt216.2.2.2.2 bt227.1 bt227.2.1 bt227.2.2.1 bt227.2.2.2.1 bt227.2.2.2.2).bind fun t236 => (if t236 = true then (some true) else (some false)))) else (some false)))) = some r:=H
  have A8:=Am A80
  clear A80
  replace H:=Option.bind_eq_some_iff.mp H
  obtain ⟨⟨t216,t219,t222,t223,t224⟩,A90,H⟩:=H
  replace H : ((impl_WriteProfile.f t216 t219 t222 t223 t224).bind fun t226 => (if t226.toList = t215.toList then ((laws_toProfile.f k l0_0 l0_1 a0_2 a0_3 a0_4).bind fun bt227 => ((laws_eqProfile.f k t216 t219 t222 t223 t224 bt227.1 bt227.2.1 bt227.2.2.1 bt227.2.2.2.1 bt227.2.2.2.2).bind fun t236 => (if t236 = true then (some true) else (some false)))) else (some false))) = some r:=H
  have A9:=Am A90
  clear A90
  replace H:=Option.bind_eq_some_iff.mp H
  obtain ⟨t226,A100,H⟩:=H
  replace H : (if t226.toList = t215.toList then ((laws_toProfile.f k l0_0 l0_1 a0_2 a0_3 a0_4).bind fun bt227 => ((laws_eqProfile.f k t216 t219 t222 t223 t224 bt227.1 bt227.2.1 bt227.2.2.1 bt227.2.2.2.1 bt227.2.2.2.2).bind fun t236 => (if t236 = true then (some true) else (some false)))) else (some false)) = some r:=H
  have A10:=Am A100
  clear A100
  by_cases c11 : t226.toList = t215.toList
  ·rw [if_pos c11] at H
   have c11b0 : (t226.toList == t215.toList) = true:=beq_iff_eq.mpr c11
   have c11b1 : (t226.toList != t215.toList) = false:=bne_eq_false_iff_eq.mpr c11
   clear c11
   replace H:=Option.bind_eq_some_iff.mp H
   obtain ⟨⟨t227,t230,t233,t234,t235⟩,A120,H⟩:=H
   replace H : ((laws_eqProfile.f k t216 t219 t222 t223 t224 t227 t230 t233 t234 t235).bind fun t236 => (if t236 = true then (some true) else (some false))) = some r:=H
   have A12:=Am A120
   clear A120
   replace H:=Option.bind_eq_some_iff.mp H
   obtain ⟨t236,A130,H⟩:=H
   replace H : (if t236 = true then (some true) else (some false)) = some r:=H
   have A13:=Am A130
   clear A130
   by_cases c14 : t236 = true
   ·subst c14
    have H1 : (some true) = some r:=by rw [if_pos rfl] at H;exact H
    clear H
    have H:=H1
    clear H1
    obtain rfl:=Option.some.inj H
    go_enter Tryd.func3,Tryd.ntmps3
    try go_wp2_with (first|((with_reducible refine gate_dst (N:=1) rfl ?_);refine box_event ?hg (N:=1) ?hd (cs:=#[.slice A0_0 l0_0.length c0_0,.slice A0_1 l0_1.length c0_1,.int .i64 a0_2,.int .i64 a0_3,.int .i64 a0_4]) (t:=25) ?hr ?_;(case hd => rfl);(case hg => rfl);(case hr => first|(go_simp;done)|(go_simp;rfl));intro gb204 hg w15 hbox hb;have n0_:=Am (below_step (by repeat (first|(with_reducible first|exact HB.out|apply bA|apply bN|apply bD)|exact HB.out)) hb);have n1_:=Am (hbox);have n2_:=Am ((by rw [hg];exact (below_size (by repeat (first|(with_reducible first|exact HB.out|apply bA|apply bN|apply bD)|exact HB.out))) : w.heap.size ≤ gb204));have n3_:=Am ((by rw [hg];exact (below_size (by repeat (first|(with_reducible first|exact HB.out|apply bA|apply bN|apply bD)|exact HB.out))) : w.heap.size ≤ gb204));clear HB;have HB:=n0_;have BK204:=n1_;have GW204:=n2_;have GE204:=n3_;clear n0_ n1_ n2_ n3_;clear hb hbox hg;have hcz16_0 : w15.cell? ⟨gb204,0,none⟩ = some (.slice A0_0 l0_0.length c0_0):=(kC BK204.out 0).trans rfl;have hcz16_1 : w15.cell? ⟨gb204,1,none⟩ = some (.slice A0_1 l0_1.length c0_1):=(kC BK204.out 1).trans rfl;have hcz16_2 : w15.cell? ⟨gb204,2,none⟩ = some (.int .i64 a0_2):=(kC BK204.out 2).trans rfl;have hcz16_3 : w15.cell? ⟨gb204,3,none⟩ = some (.int .i64 a0_3):=(kC BK204.out 3).trans rfl;have hcz16_4 : w15.cell? ⟨gb204,4,none⟩ = some (.int .i64 a0_4):=(kC BK204.out 4).trans rfl;have hfz16_0:=kF BK204.out 0;have hfz16_1:=kF BK204.out 1;have hfz16_2:=kF BK204.out 2;have hfz16_3:=kF BK204.out 3;have hfz16_4:=kF BK204.out 4)|((with_reducible refine gate_callee (f:=4) rfl ?_);refine goesL_ (some 9) rfl rfl Tryd.func4 (by kernel_rfl) rfl #[.agg #[.slice A0_0 l0_0.length c0_0,.slice A0_1 l0_1.length c0_1,.int .i64 a0_2,.int .i64 a0_3,.int .i64 a0_4],.int .i64 1048576] rfl (by (try simp only [List.map_toArray,List.map_cons,List.map_nil]);first|done|rfl|(simp only [List.length_drop,List.length_take];rfl)) ?_;(with_reducible refine (laws_szProfile.calls _ _ l0_0 _ _ l0_1 a0_2 a0_3 a0_4 1048576 t205 _ ?side1 ?side2 ?side3 ?side4 A2.out).mono ?_);(case side1 => repeat (first|exact (Kd.C_below HR0_0.out HB.out)|(with_reducible refine Kd.C_alloc ?_ _)|(with_reducible refine Kd.C_drewN ?_ _)|(with_reducible refine Kd.C_drew ?_)));(case side2 => exact HC0_0.out);(case side3 => repeat (first|exact (Kd.C_below HR0_1.out HB.out)|(with_reducible refine Kd.C_alloc ?_ _)|(with_reducible refine Kd.C_drewN ?_ _)|(with_reducible refine Kd.C_drew ?_)));(case side4 => exact HC0_1.out);rintro e w17 ⟨rfl,hb⟩;refine ⟨_,rfl,?_⟩;have n0_:=Am (blk_below (g:=gb204) (o:=.cells #[.slice A0_0 l0_0.length c0_0,.slice A0_1 l0_1.length c0_1,.int .i64 a0_2,.int .i64 a0_3,.int .i64 a0_4] 25 (0,0)) (by (with_reducible repeat (first|refine kN ?_ _|refine kD ?_|refine kA ?_ _));exact BK204.out) hb);have n1_:=Am (below_step (by repeat (first|(with_reducible first|exact HB.out|apply bA|apply bN|apply bD|refine bS ?_ GE204.out)|exact HB.out)) hb);clear BK204;clear HB;have BK204:=n0_;have HB:=n1_;clear n0_ n1_;(try clear hb);(try clear hb2);(try clear hk);(try clear hi);have hcz18_0 : w17.cell? ⟨gb204,0,none⟩ = some (.slice A0_0 l0_0.length c0_0):=(kC BK204.out 0).trans rfl;have hcz18_1 : w17.cell? ⟨gb204,1,none⟩ = some (.slice A0_1 l0_1.length c0_1):=(kC BK204.out 1).trans rfl;have hcz18_2 : w17.cell? ⟨gb204,2,none⟩ = some (.int .i64 a0_2):=(kC BK204.out 2).trans rfl;have hcz18_3 : w17.cell? ⟨gb204,3,none⟩ = some (.int .i64 a0_3):=(kC BK204.out 3).trans rfl;have hcz18_4 : w17.cell? ⟨gb204,4,none⟩ = some (.int .i64 a0_4):=(kC BK204.out 4).trans rfl;have hfz18_0:=kF BK204.out 0;have hfz18_1:=kF BK204.out 1;have hfz18_2:=kF BK204.out 2;have hfz18_3:=kF BK204.out 3;have hfz18_4:=kF BK204.out 4)|((with_reducible refine gate_callee (f:=6) rfl ?_);refine goesL_ (some 13) rfl rfl Tryd.func6 (by kernel_rfl) rfl #[.agg #[.slice A0_0 l0_0.length c0_0,.slice A0_1 l0_1.length c0_1,.int .i64 a0_2,.int .i64 a0_3,.int .i64 a0_4]] rfl (by (try simp only [List.map_toArray,List.map_cons,List.map_nil]);first|done|rfl|(simp only [List.length_drop,List.length_take];rfl)) ?_;(with_reducible refine (laws_toProfile.calls k _ _ l0_0 _ _ l0_1 a0_2 a0_3 a0_4 t206 t209 t212 t213 t214 _ ?side1 ?side2 ?side3 ?side4 A7.out).mono ?_);(case side1 => repeat (first|exact (Kd.C_below HR0_0.out HB.out)|(with_reducible refine Kd.C_alloc ?_ _)|(with_reducible refine Kd.C_drewN ?_ _)|(with_reducible refine Kd.C_drew ?_)));(case side2 => exact HC0_0.out);(case side3 => repeat (first|exact (Kd.C_below HR0_1.out HB.out)|(with_reducible refine Kd.C_alloc ?_ _)|(with_reducible refine Kd.C_drewN ?_ _)|(with_reducible refine Kd.C_drew ?_)));(case side4 => exact HC0_1.out);rintro e w19 ⟨v207,v210,rfl,ho0,ho1,hb⟩;refine ⟨_,rfl,?_⟩;have n0_:=Am (Kd.R_lower ho0 (below_size (by repeat (first|(with_reducible first|exact HB.out|apply bA|apply bN|apply bD|refine bS ?_ GE204.out)|exact HB.out))));have n1_:=Am (Kd.R_lower ho1 (below_size (by repeat (first|(with_reducible first|exact HB.out|apply bA|apply bN|apply bD|refine bS ?_ GE204.out)|exact HB.out))));have n2_:=Am (blk_below (g:=gb204) (o:=.cells #[.slice A0_0 l0_0.length c0_0,.slice A0_1 l0_1.length c0_1,.int .i64 a0_2,.int .i64 a0_3,.int .i64 a0_4] 25 (0,0)) (by (with_reducible repeat (first|refine kN ?_ _|refine kD ?_|refine kA ?_ _));exact BK204.out) hb);have n3_:=Am (below_step (by repeat (first|(with_reducible first|exact HB.out|apply bA|apply bN|apply bD|refine bS ?_ GE204.out)|exact HB.out)) hb);clear BK204;clear HB;have HO208:=n0_;have HO211:=n1_;have BK204:=n2_;have HB:=n3_;clear n0_ n1_ n2_ n3_;(try clear hb);(try clear hb2);(try clear hk);(try clear hi);(try clear ho0);(try clear ho1);obtain ⟨Ao20,co20,eo20⟩:=Kd.R_slice HO208.out;subst eo20;obtain ⟨Ao21,co21,eo21⟩:=Kd.R_slice HO211.out;subst eo21)|((with_reducible refine gate_callee (f:=5) rfl ?_);refine goesL_ (some 14) rfl rfl Tryd.func5 (by kernel_rfl) rfl #[.agg #[.slice Ao20 t206.length co20,.slice Ao21 t209.length co21,.int .i64 t212,.int .i64 t213,.int .i64 t214]] rfl (by (try simp only [List.map_toArray,List.map_cons,List.map_nil]);first|done|rfl|(simp only [List.length_drop,List.length_take];rfl)) ?_;(with_reducible refine (spec_WriteProfile.calls k _ _ t206 _ _ t209 t212 t213 t214 t215 _ ?side1 ?side2 ?side3 ?side4 A8.out).mono ?_);(case side1 => repeat (first|exact (Kd.R_reads' HO208.out).2.2|(with_reducible refine Kd.C_alloc ?_ _)|(with_reducible refine Kd.C_drewN ?_ _)|(with_reducible refine Kd.C_drew ?_)));(case side2 => exact (Kd.R_reads' HO208.out).2.1);(case side3 => repeat (first|exact (Kd.R_reads' HO211.out).2.2|(with_reducible refine Kd.C_alloc ?_ _)|(with_reducible refine Kd.C_drewN ?_ _)|(with_reducible refine Kd.C_drew ?_)));(case side4 => exact (Kd.R_reads' HO211.out).2.1);rintro e w22 ⟨rfl,hb⟩;refine ⟨_,rfl,?_⟩;have n0_:=Am (Kd.R_below (by (with_reducible repeat (first|apply Kd.R_alloc|apply Kd.R_drewN|apply Kd.R_drew));exact HO208.out) hb);have n1_:=Am (Kd.R_below (by (with_reducible repeat (first|apply Kd.R_alloc|apply Kd.R_drewN|apply Kd.R_drew));exact HO211.out) hb);have n2_:=Am (blk_below (g:=gb204) (o:=.cells #[.slice A0_0 l0_0.length c0_0,.slice A0_1 l0_1.length c0_1,.int .i64 a0_2,.int .i64 a0_3,.int .i64 a0_4] 25 (0,0)) (by (with_reducible repeat (first|refine kN ?_ _|refine kD ?_|refine kA ?_ _));exact BK204.out) hb);have n3_:=Am (below_step (by repeat (first|(with_reducible first|exact HB.out|apply bA|apply bN|apply bD|refine bS ?_ GE204.out)|exact HB.out)) hb);clear HO208;clear HO211;clear BK204;clear HB;have HO208:=n0_;have HO211:=n1_;have BK204:=n2_;have HB:=n3_;clear n0_ n1_ n2_ n3_;(try clear hb);(try clear hb2);(try clear hk);(try clear hi);have hcz23_0 : w22.cell? ⟨gb204,0,none⟩ = some (.slice A0_0 l0_0.length c0_0):=(kC BK204.out 0).trans rfl;have hcz23_1 : w22.cell? ⟨gb204,1,none⟩ = some (.slice A0_1 l0_1.length c0_1):=(kC BK204.out 1).trans rfl;have hcz23_2 : w22.cell? ⟨gb204,2,none⟩ = some (.int .i64 a0_2):=(kC BK204.out 2).trans rfl;have hcz23_3 : w22.cell? ⟨gb204,3,none⟩ = some (.int .i64 a0_3):=(kC BK204.out 3).trans rfl;have hcz23_4 : w22.cell? ⟨gb204,4,none⟩ = some (.int .i64 a0_4):=(kC BK204.out 4).trans rfl;have hfz23_0:=kF BK204.out 0;have hfz23_1:=kF BK204.out 1;have hfz23_2:=kF BK204.out 2;have hfz23_3:=kF BK204.out 3;have hfz23_4:=kF BK204.out 4)|((with_reducible refine gate_callee (f:=6) rfl ?_);refine goesL_ (some 16) rfl rfl Tryd.func6 (by kernel_rfl) rfl #[.agg #[.slice A0_0 l0_0.length c0_0,.slice A0_1 l0_1.length c0_1,.int .i64 a0_2,.int .i64 a0_3,.int .i64 a0_4]] rfl (by (try simp only [List.map_toArray,List.map_cons,List.map_nil]);first|done|rfl|(simp only [List.length_drop,List.length_take];rfl)) ?_;(with_reducible refine (laws_toProfile.calls k _ _ l0_0 _ _ l0_1 a0_2 a0_3 a0_4 t216 t219 t222 t223 t224 _ ?side1 ?side2 ?side3 ?side4 A9.out).mono ?_);(case side1 => repeat (first|exact (Kd.C_below HR0_0.out HB.out)|(with_reducible refine Kd.C_alloc ?_ _)|(with_reducible refine Kd.C_drewN ?_ _)|(with_reducible refine Kd.C_drew ?_)));(case side2 => exact HC0_0.out);(case side3 => repeat (first|exact (Kd.C_below HR0_1.out HB.out)|(with_reducible refine Kd.C_alloc ?_ _)|(with_reducible refine Kd.C_drewN ?_ _)|(with_reducible refine Kd.C_drew ?_)));(case side4 => exact HC0_1.out);rintro e w24 ⟨v217,v220,rfl,ho0,ho1,hb⟩;refine ⟨_,rfl,?_⟩;have n0_:=Am (Kd.R_elder' (by (with_reducible repeat (first|apply Kd.R_alloc|apply Kd.R_drewN|apply Kd.R_drew));exact HO208.out) (Kd.R_base ho0) hb);have n1_:=Am (Kd.R_elder' (by (with_reducible repeat (first|apply Kd.R_alloc|apply Kd.R_drewN|apply Kd.R_drew));exact HO211.out) (Kd.R_base ho1) hb);have n2_:=Am (Kd.R_lower (Kd.R_new' ho0 (Kd.R_lt (by (with_reducible repeat (first|apply Kd.R_alloc|apply Kd.R_drewN|apply Kd.R_drew));exact HO208.out))) (below_size (by repeat (first|(with_reducible first|exact HB.out|apply bA|apply bN|apply bD|refine bS ?_ GE204.out)|exact HB.out))));have n3_:=Am (Kd.R_lower (Kd.R_new' ho1 (Kd.R_lt (by (with_reducible repeat (first|apply Kd.R_alloc|apply Kd.R_drewN|apply Kd.R_drew));exact HO211.out))) (below_size (by repeat (first|(with_reducible first|exact HB.out|apply bA|apply bN|apply bD|refine bS ?_ GE204.out)|exact HB.out))));have n4_:=Am (blk_below (g:=gb204) (o:=.cells #[.slice A0_0 l0_0.length c0_0,.slice A0_1 l0_1.length c0_1,.int .i64 a0_2,.int .i64 a0_3,.int .i64 a0_4] 25 (0,0)) (by (with_reducible repeat (first|refine kN ?_ _|refine kD ?_|refine kA ?_ _));exact BK204.out) hb);have n5_:=Am (below_step (by repeat (first|(with_reducible first|exact HB.out|apply bA|apply bN|apply bD|refine bS ?_ GE204.out)|exact HB.out)) hb);clear HO208;clear HO211;clear BK204;clear HB;have HO208:=n0_;have HO211:=n1_;have HO218:=n2_;have HO221:=n3_;have BK204:=n4_;have HB:=n5_;clear n0_ n1_ n2_ n3_ n4_ n5_;(try clear hb);(try clear hb2);(try clear hk);(try clear hi);(try clear ho0);(try clear ho1))|((with_reducible refine gate_dst (N:=5) rfl ?_);refine box_event ?hg (N:=5) ?hd (cs:=#[.slice none 0 0,.slice none 0 0,.int .i64 0,.int .i64 0,.int .i64 0]) (t:=31) ?hr ?_;(case hd => rfl);(case hg => rfl);(case hr => first|(go_simp;done)|(go_simp;rfl));intro gb225 hg w25 hbox hb;have n0_:=Am (Kd.R_below (by (with_reducible repeat (first|apply Kd.R_alloc|apply Kd.R_drewN|apply Kd.R_drew));exact HO208.out) hb);have n1_:=Am (Kd.R_below (by (with_reducible repeat (first|apply Kd.R_alloc|apply Kd.R_drewN|apply Kd.R_drew));exact HO211.out) hb);have n2_:=Am (Kd.R_below (by (with_reducible repeat (first|apply Kd.R_alloc|apply Kd.R_drewN|apply Kd.R_drew));exact HO218.out) hb);have n3_:=Am (Kd.R_below (by (with_reducible repeat (first|apply Kd.R_alloc|apply Kd.R_drewN|apply Kd.R_drew));exact HO221.out) hb);have n4_:=Am (blk_below (g:=gb204) (o:=.cells #[.slice A0_0 l0_0.length c0_0,.slice A0_1 l0_1.length c0_1,.int .i64 a0_2,.int .i64 a0_3,.int .i64 a0_4] 25 (0,0)) (by (with_reducible repeat (first|refine kN ?_ _|refine kD ?_|refine kA ?_ _));exact BK204.out) hb);have n5_:=Am (below_step (by repeat (first|(with_reducible first|exact HB.out|apply bA|apply bN|apply bD|refine bS ?_ GE204.out)|exact HB.out)) hb);have n6_:=Am (hbox);have n7_:=Am ((by rw [hg];exact (below_size (by repeat (first|(with_reducible first|exact HB.out|apply bA|apply bN|apply bD|refine bS ?_ GE204.out)|exact HB.out))) : w.heap.size ≤ gb225));have n8_:=Am ((by rw [hg];exact (below_size (by repeat (first|(with_reducible first|exact HB.out|apply bA|apply bN|apply bD|refine bS ?_ GE204.out)|exact HB.out))) : w.heap.size ≤ gb225));have n9_:=Am ((by rw [hg];exact Nat.ne_of_lt (blk_lt (g:=gb204) (o:=.cells #[.slice A0_0 l0_0.length c0_0,.slice A0_1 l0_1.length c0_1,.int .i64 a0_2,.int .i64 a0_3,.int .i64 a0_4] 25 (0,0)) (by (with_reducible repeat (first|refine kN ?_ _|refine kD ?_|refine kA ?_ _));exact BK204.out)) : gb204 ≠ gb225));have n10_:=Am ((by rw [hg];exact Nat.ne_of_gt (blk_lt (g:=gb204) (o:=.cells #[.slice A0_0 l0_0.length c0_0,.slice A0_1 l0_1.length c0_1,.int .i64 a0_2,.int .i64 a0_3,.int .i64 a0_4] 25 (0,0)) (by (with_reducible repeat (first|refine kN ?_ _|refine kD ?_|refine kA ?_ _));exact BK204.out)) : gb225 ≠ gb204));clear HO208;clear HO211;clear HO218;clear HO221;clear BK204;clear HB;have HO208:=n0_;have HO211:=n1_;have HO218:=n2_;have HO221:=n3_;have BK204:=n4_;have HB:=n5_;have BK225:=n6_;have GW225:=n7_;have GE225:=n8_;have NB204_225:=n9_;have NB225_204:=n10_;clear n0_ n1_ n2_ n3_ n4_ n5_ n6_ n7_ n8_ n9_ n10_;clear hb hbox hg;obtain ⟨Ao26,co26,eo26⟩:=Kd.R_slice HO218.out;subst eo26;have hnb27:=NB225_204.out;have hnc27:=NB204_225.out;have hcz28_0 : w25.cell? ⟨gb225,0,none⟩ = some (.slice none 0 0):=(kC BK225.out 0).trans rfl;have hcz28_1 : w25.cell? ⟨gb225,1,none⟩ = some (.slice none 0 0):=(kC BK225.out 1).trans rfl;have hcz28_2 : w25.cell? ⟨gb225,2,none⟩ = some (.int .i64 0):=(kC BK225.out 2).trans rfl;have hcz28_3 : w25.cell? ⟨gb225,3,none⟩ = some (.int .i64 0):=(kC BK225.out 3).trans rfl;have hcz28_4 : w25.cell? ⟨gb225,4,none⟩ = some (.int .i64 0):=(kC BK225.out 4).trans rfl;have hfz28_0:=kF BK225.out 0;have hfz28_1:=kF BK225.out 1;have hfz28_2:=kF BK225.out 2;have hfz28_3:=kF BK225.out 3;have hfz28_4:=kF BK225.out 4;obtain ⟨Ao29,co29,eo29⟩:=Kd.R_slice HO221.out;subst eo29)|((with_reducible refine gate_callee (f:=7) rfl ?_);refine goesL_ (some 18) rfl rfl Tryd.func7 (by kernel_rfl) rfl #[.agg #[.slice Ao26 t216.length co26,.slice Ao29 t219.length co29,.int .i64 t222,.int .i64 t223,.int .i64 t224]] rfl (by (try simp only [List.map_toArray,List.map_cons,List.map_nil]);first|done|rfl|(simp only [List.length_drop,List.length_take];rfl)) ?_;(with_reducible refine (impl_WriteProfile.calls _ _ t216 _ _ t219 t222 t223 t224 t226 _ ?side1 ?side2 ?side3 ?side4 ?side5 A10.out).mono ?_);(case side1 => refine (Kd.R_reads' (e:=39) (base:=w.heap.size) (ok:=fun k_ => (True∧some k_ ≠ (.slice Ao20 t206.length co20 : Value).ownBlock)) (n:=t216.length) (c:=co26) ?_).2.2;exact (by (with_reducible repeat (first|apply Kd.R_alloc|apply Kd.R_drewN|apply Kd.R_drew));exact (Kd.R_mono (Kd.R_far (p:=⟨gb225,4,none⟩) (Kd.R_far (p:=⟨gb225,3,none⟩) (Kd.R_far (p:=⟨gb225,2,none⟩) (Kd.R_far (p:=⟨gb225,1,none⟩) (Kd.R_far (p:=⟨gb225,0,none⟩) (Kd.R_types HO218.out BK225.out (by decide)) (fun _ hk => hk.2) (.slice Ao26 t216.length co26)) (fun _ hk => hk.2) (.slice Ao29 t219.length co29)) (fun _ hk => hk.2) (.int .i64 t222)) (fun _ hk => hk.2) (.int .i64 t223)) (fun _ hk => hk.2) (.int .i64 t224)) (fun _ h_ => h_.1))));(case side2 => exact (Kd.R_reads' HO218.out).2.1);(case side3 => refine (Kd.R_reads' (e:=42) (base:=w.heap.size) (ok:=fun k_ => (True∧some k_ ≠ (.slice Ao21 t209.length co21 : Value).ownBlock)) (n:=t219.length) (c:=co29) ?_).2.2;exact (by (with_reducible repeat (first|apply Kd.R_alloc|apply Kd.R_drewN|apply Kd.R_drew));exact (Kd.R_mono (Kd.R_far (p:=⟨gb225,4,none⟩) (Kd.R_far (p:=⟨gb225,3,none⟩) (Kd.R_far (p:=⟨gb225,2,none⟩) (Kd.R_far (p:=⟨gb225,1,none⟩) (Kd.R_far (p:=⟨gb225,0,none⟩) (Kd.R_types HO221.out BK225.out (by decide)) (fun _ hk => hk.2) (.slice Ao26 t216.length co26)) (fun _ hk => hk.2) (.slice Ao29 t219.length co29)) (fun _ hk => hk.2) (.int .i64 t222)) (fun _ hk => hk.2) (.int .i64 t223)) (fun _ hk => hk.2) (.int .i64 t224)) (fun _ h_ => h_.1))));(case side4 => exact (Kd.R_reads' HO221.out).2.1);(case side5 => exact Lib.tabBelow_of_tabIs HTAB.out _ (by repeat (first|(with_reducible first|exact HB.out|apply bA|apply bN|apply bD|refine bS ?_ GE204.out|refine bS ?_ GE225.out)|exact HB.out)));rintro e w30 ⟨rfl,hb⟩;refine ⟨_,rfl,?_⟩;have n0_:=Am (Kd.R_below (by (with_reducible repeat (first|apply Kd.R_alloc|apply Kd.R_drewN|apply Kd.R_drew));exact (Kd.R_mono (Kd.R_far (p:=⟨gb225,4,none⟩) (Kd.R_far (p:=⟨gb225,3,none⟩) (Kd.R_far (p:=⟨gb225,2,none⟩) (Kd.R_far (p:=⟨gb225,1,none⟩) (Kd.R_far (p:=⟨gb225,0,none⟩) (Kd.R_types HO208.out BK225.out (by decide)) (fun _ hk => hk.2) (.slice Ao26 t216.length co26)) (fun _ hk => hk.2) (.slice Ao29 t219.length co29)) (fun _ hk => hk.2) (.int .i64 t222)) (fun _ hk => hk.2) (.int .i64 t223)) (fun _ hk => hk.2) (.int .i64 t224)) (fun _ h_ => h_.1))) hb);have n1_:=Am (Kd.R_below (by (with_reducible repeat (first|apply Kd.R_alloc|apply Kd.R_drewN|apply Kd.R_drew));exact (Kd.R_mono (Kd.R_far (p:=⟨gb225,4,none⟩) (Kd.R_far (p:=⟨gb225,3,none⟩) (Kd.R_far (p:=⟨gb225,2,none⟩) (Kd.R_far (p:=⟨gb225,1,none⟩) (Kd.R_far (p:=⟨gb225,0,none⟩) (Kd.R_types HO211.out BK225.out (by decide)) (fun _ hk => hk.2) (.slice Ao26 t216.length co26)) (fun _ hk => hk.2) (.slice Ao29 t219.length co29)) (fun _ hk => hk.2) (.int .i64 t222)) (fun _ hk => hk.2) (.int .i64 t223)) (fun _ hk => hk.2) (.int .i64 t224)) (fun _ h_ => h_.1))) hb);have n2_:=Am (Kd.R_below (by (with_reducible repeat (first|apply Kd.R_alloc|apply Kd.R_drewN|apply Kd.R_drew));exact (Kd.R_mono (Kd.R_far (p:=⟨gb225,4,none⟩) (Kd.R_far (p:=⟨gb225,3,none⟩) (Kd.R_far (p:=⟨gb225,2,none⟩) (Kd.R_far (p:=⟨gb225,1,none⟩) (Kd.R_far (p:=⟨gb225,0,none⟩) (Kd.R_types HO218.out BK225.out (by decide)) (fun _ hk => hk.2) (.slice Ao26 t216.length co26)) (fun _ hk => hk.2) (.slice Ao29 t219.length co29)) (fun _ hk => hk.2) (.int .i64 t222)) (fun _ hk => hk.2) (.int .i64 t223)) (fun _ hk => hk.2) (.int .i64 t224)) (fun _ h_ => h_.1))) hb);have n3_:=Am (Kd.R_below (by (with_reducible repeat (first|apply Kd.R_alloc|apply Kd.R_drewN|apply Kd.R_drew));exact (Kd.R_mono (Kd.R_far (p:=⟨gb225,4,none⟩) (Kd.R_far (p:=⟨gb225,3,none⟩) (Kd.R_far (p:=⟨gb225,2,none⟩) (Kd.R_far (p:=⟨gb225,1,none⟩) (Kd.R_far (p:=⟨gb225,0,none⟩) (Kd.R_types HO221.out BK225.out (by decide)) (fun _ hk => hk.2) (.slice Ao26 t216.length co26)) (fun _ hk => hk.2) (.slice Ao29 t219.length co29)) (fun _ hk => hk.2) (.int .i64 t222)) (fun _ hk => hk.2) (.int .i64 t223)) (fun _ hk => hk.2) (.int .i64 t224)) (fun _ h_ => h_.1))) hb);have n4_:=Am (blk_below (g:=gb204) (o:=.cells #[.slice A0_0 l0_0.length c0_0,.slice A0_1 l0_1.length c0_1,.int .i64 a0_2,.int .i64 a0_3,.int .i64 a0_4] 25 (0,0)) (by (with_reducible repeat (first|refine kN ?_ _|refine kD ?_|refine kA ?_ _));refine blk_far ?_ NB204_225.out _;(with_reducible repeat (first|refine kN ?_ _|refine kD ?_|refine kA ?_ _));refine blk_far ?_ NB204_225.out _;(with_reducible repeat (first|refine kN ?_ _|refine kD ?_|refine kA ?_ _));refine blk_far ?_ NB204_225.out _;(with_reducible repeat (first|refine kN ?_ _|refine kD ?_|refine kA ?_ _));refine blk_far ?_ NB204_225.out _;(with_reducible repeat (first|refine kN ?_ _|refine kD ?_|refine kA ?_ _));refine blk_far ?_ NB204_225.out _;(with_reducible repeat (first|refine kN ?_ _|refine kD ?_|refine kA ?_ _));exact BK204.out) hb);have n5_:=Am (blk_below (g:=gb225) (o:=.cells #[.slice Ao26 t216.length co26,.slice Ao29 t219.length co29,.int .i64 t222,.int .i64 t223,.int .i64 t224] 31 (0,0)) (by (with_reducible repeat (first|refine kN ?_ _|refine kD ?_|refine kA ?_ _));refine blk_put (cs:=#[.slice Ao26 t216.length co26,.slice Ao29 t219.length co29,.int .i64 t222,.int .i64 t223,.int .i64 0]) ?_ 4 _ rfl;(with_reducible repeat (first|refine kN ?_ _|refine kD ?_|refine kA ?_ _));refine blk_put (cs:=#[.slice Ao26 t216.length co26,.slice Ao29 t219.length co29,.int .i64 t222,.int .i64 0,.int .i64 0]) ?_ 3 _ rfl;(with_reducible repeat (first|refine kN ?_ _|refine kD ?_|refine kA ?_ _));refine blk_put (cs:=#[.slice Ao26 t216.length co26,.slice Ao29 t219.length co29,.int .i64 0,.int .i64 0,.int .i64 0]) ?_ 2 _ rfl;(with_reducible repeat (first|refine kN ?_ _|refine kD ?_|refine kA ?_ _));refine blk_put (cs:=#[.slice Ao26 t216.length co26,.slice none 0 0,.int .i64 0,.int .i64 0,.int .i64 0]) ?_ 1 _ rfl;(with_reducible repeat (first|refine kN ?_ _|refine kD ?_|refine kA ?_ _));refine blk_put (cs:=#[.slice none 0 0,.slice none 0 0,.int .i64 0,.int .i64 0,.int .i64 0]) ?_ 0 _ rfl;(with_reducible repeat (first|refine kN ?_ _|refine kD ?_|refine kA ?_ _));exact BK225.out) hb);have n6_:=Am (below_step (by repeat (first|(with_reducible first|exact HB.out|apply bA|apply bN|apply bD|refine bS ?_ GE204.out|refine bS ?_ GE225.out)|exact HB.out)) hb);clear HO208;clear HO211;clear HO218;clear HO221;clear BK204;clear BK225;clear HB;have HO208:=n0_;have HO211:=n1_;have HO218:=n2_;have HO221:=n3_;have BK204:=n4_;have BK225:=n5_;have HB:=n6_;clear n0_ n1_ n2_ n3_ n4_ n5_ n6_;(try clear hb);(try clear hb2);(try clear hk);(try clear hi)))
    have n0_:=Am (Kd.R_drew HO208.out)
    have n1_:=Am (Kd.R_drew HO211.out)
    have n2_:=Am (Kd.R_drew HO218.out)
    have n3_:=Am (Kd.R_drew HO221.out)
    have n4_:=Am (kD BK204.out)
    have n5_:=Am (kD BK225.out)
    have n6_:=Am (bD HB.out)
    clear HO208
    clear HO211
    clear HO218
    clear HO221
    clear BK204
    clear BK225
    clear HB
    have HO208:=n0_
    have HO211:=n1_
    have HO218:=n2_
    have HO221:=n3_
    have BK204:=n4_
    have BK225:=n5_
    have HB:=n6_
    clear n0_ n1_ n2_ n3_ n4_ n5_ n6_
    refine start_ (n:=5) (S:=fun w' => w'.cell? ⟨gb225,0,none⟩ = some (.slice Ao26 t216.length co26)∧w'.cell? ⟨gb225,1,none⟩ = some (.slice Ao29 t219.length co29)∧w'.cell? ⟨gb225,2,none⟩ = some (.int .i64 t222)∧w'.cell? ⟨gb225,3,none⟩ = some (.int .i64 t223)∧w'.cell? ⟨gb225,4,none⟩ = some (.int .i64 t224)∧w'.cell? ⟨gb204,0,none⟩ = some (.slice A0_0 l0_0.length c0_0)∧w'.cell? ⟨gb204,1,none⟩ = some (.slice A0_1 l0_1.length c0_1)∧w'.cell? ⟨gb204,2,none⟩ = some (.int .i64 a0_2)∧w'.cell? ⟨gb204,3,none⟩ = some (.int .i64 a0_3)∧w'.cell? ⟨gb204,4,none⟩ = some (.int .i64 a0_4)) (ds:=[]) #[false,false,false,false,false] (by kernel_rfl) rfl rfl ⟨(kC BK225.out 0).trans rfl,(kC BK225.out 1).trans rfl,(kC BK225.out 2).trans rfl,(kC BK225.out 3).trans rfl,(kC BK225.out 4).trans rfl,(kC BK204.out 0).trans rfl,(kC BK204.out 1).trans rfl,(kC BK204.out 2).trans rfl,(kC BK204.out 3).trans rfl,(kC BK204.out 4).trans rfl⟩ (fun hHeld => ?_)
    generalize w30.drew = w31 at HO208 HO211 HO218 HO221 BK204 BK225 HB hHeld ⊢
    refine take_ (i:=0) (N:=some 22) (v:=?_) (a':=?_) #[true,false,false,false,false] rfl rfl (by kernel_rfl) (fun _ _ _ h => h) (Or.inl ⟨by rfl,?_⟩) hHeld ?_ ?_
    rotate_left
    ·rintro w' ⟨s0,s1,s2,s3,s4,s5,s6,s7,s8,s9⟩
     go_simp
     with_reducible rfl
    rotate_left
    ·simp only [Act.put,pS]
     rfl
    refine take_ (i:=1) (N:=some 23) (v:=?_) (a':=?_) #[true,true,false,false,false] rfl rfl (by kernel_rfl) (fun _ _ _ h => h) (Or.inl ⟨by rfl,?_⟩) hHeld ?_ ?_
    rotate_left
    ·rintro w' ⟨s0,s1,s2,s3,s4,s5,s6,s7,s8,s9⟩
     go_simp
     with_reducible rfl
    rotate_left
    ·simp only [Act.put,pS]
     rfl
    refine one_ (i:=2) (N:=some 24) #[true,true,true,false,false] rfl rfl (by kernel_rfl) (by decide) (fun K hK => ?_)
    refine goes_ Tryd.func6 (by kernel_rfl) rfl #[.agg #[.slice A0_0 l0_0.length c0_0,.slice A0_1 l0_1.length c0_1,.int .i64 a0_2,.int .i64 a0_3,.int .i64 a0_4]] (by rfl) rfl rfl (by (try simp only [List.map_toArray,List.map_cons,List.map_nil]);first|done|rfl|(simp only [List.length_drop,List.length_take];rfl)) ?_
    with_reducible refine (laws_toProfile.calls k _ _ l0_0 _ _ l0_1 a0_2 a0_3 a0_4 t227 t230 t233 t234 t235 _ ?side1 ?side2 ?side3 ?side4 A12.out).mono ?_
    (case side1 => repeat (first|exact (Kd.C_below HR0_0.out HB.out)|(with_reducible refine Kd.C_alloc ?_ _)|(with_reducible refine Kd.C_drewN ?_ _)|(with_reducible refine Kd.C_drew ?_)))
    (case side2 => exact HC0_0.out)
    (case side3 => repeat (first|exact (Kd.C_below HR0_1.out HB.out)|(with_reducible refine Kd.C_alloc ?_ _)|(with_reducible refine Kd.C_drewN ?_ _)|(with_reducible refine Kd.C_drew ?_)))
    (case side4 => exact HC0_1.out)
    rintro e w32 ⟨v228,v231,rfl,ho0,ho1,hb⟩
    refine ⟨_,rfl,?_⟩
    have n0_:=Am (Kd.R_elder' (by (with_reducible repeat (first|apply Kd.R_alloc|apply Kd.R_drewN|apply Kd.R_drew));exact HO208.out) (Kd.R_base ho0) hb)
    have n1_:=Am (Kd.R_elder' (by (with_reducible repeat (first|apply Kd.R_alloc|apply Kd.R_drewN|apply Kd.R_drew));exact HO211.out) (Kd.R_base ho1) hb)
    have n2_:=Am (Kd.R_elder' (by (with_reducible repeat (first|apply Kd.R_alloc|apply Kd.R_drewN|apply Kd.R_drew));exact HO218.out) (Kd.R_base ho0) hb)
    have n3_:=Am (Kd.R_elder' (by (with_reducible repeat (first|apply Kd.R_alloc|apply Kd.R_drewN|apply Kd.R_drew));exact HO221.out) (Kd.R_base ho1) hb)
    have n4_:=Am (Kd.R_lower (Kd.R_new' (Kd.R_new' ho0 (Kd.R_lt (by (with_reducible repeat (first|apply Kd.R_alloc|apply Kd.R_drewN|apply Kd.R_drew));exact HO208.out))) (Kd.R_lt (by (with_reducible repeat (first|apply Kd.R_alloc|apply Kd.R_drewN|apply Kd.R_drew));exact HO218.out))) (below_size (by repeat (first|(with_reducible first|exact HB.out|apply bA|apply bN|apply bD|refine bS ?_ GE204.out|refine bS ?_ GE225.out)|exact HB.out))))
    have n5_:=Am (Kd.R_lower (Kd.R_new' (Kd.R_new' ho1 (Kd.R_lt (by (with_reducible repeat (first|apply Kd.R_alloc|apply Kd.R_drewN|apply Kd.R_drew));exact HO211.out))) (Kd.R_lt (by (with_reducible repeat (first|apply Kd.R_alloc|apply Kd.R_drewN|apply Kd.R_drew));exact HO221.out))) (below_size (by repeat (first|(with_reducible first|exact HB.out|apply bA|apply bN|apply bD|refine bS ?_ GE204.out|refine bS ?_ GE225.out)|exact HB.out))))
    have n6_:=Am (blk_below (g:=gb204) (o:=.cells #[.slice A0_0 l0_0.length c0_0,.slice A0_1 l0_1.length c0_1,.int .i64 a0_2,.int .i64 a0_3,.int .i64 a0_4] 25 (0,0)) (by (with_reducible repeat (first|refine kN ?_ _|refine kD ?_|refine kA ?_ _));exact BK204.out) hb)
    have n7_:=Am (blk_below (g:=gb225) (o:=.cells #[.slice Ao26 t216.length co26,.slice Ao29 t219.length co29,.int .i64 t222,.int .i64 t223,.int .i64 t224] 31 (0,0)) (by (with_reducible repeat (first|refine kN ?_ _|refine kD ?_|refine kA ?_ _));exact BK225.out) hb)
    have n8_:=Am (below_step (by repeat (first|(with_reducible first|exact HB.out|apply bA|apply bN|apply bD|refine bS ?_ GE204.out|refine bS ?_ GE225.out)|exact HB.out)) hb)
    clear HO208
    clear HO211
    clear HO218
    clear HO221
    clear BK204
    clear BK225
    clear HB
    have HO208:=n0_
    have HO211:=n1_
    have HO218:=n2_
    have HO221:=n3_
    have HO229:=n4_
    have HO232:=n5_
    have BK204:=n6_
    have BK225:=n7_
    have HB:=n8_
    clear n0_ n1_ n2_ n3_ n4_ n5_ n6_ n7_ n8_
    (try clear hb)
    (try clear hb2)
    (try clear hk)
    (try clear hi)
    (try clear ho0)
    (try clear ho1)
    obtain ⟨Ao33,co33,eo33⟩:=Kd.R_slice HO229.out
    (first|subst eo33|(injection eo33 with f1_ f2_ f3_;have f4_:=f1_.symm;have f5_:=f3_.symm;clear f1_ f2_ f3_;subst f4_;subst f5_))
    obtain ⟨Ao34,co34,eo34⟩:=Kd.R_slice HO232.out
    (first|subst eo34|(injection eo34 with f1_ f2_ f3_;have f4_:=f1_.symm;have f5_:=f3_.symm;clear f1_ f2_ f3_;subst f4_;subst f5_))
    refine hK.out _ _ ⟨(kC BK225.out 0).trans rfl,(kC BK225.out 1).trans rfl,(kC BK225.out 2).trans rfl,(kC BK225.out 3).trans rfl,(kC BK225.out 4).trans rfl,(kC BK204.out 0).trans rfl,(kC BK204.out 1).trans rfl,(kC BK204.out 2).trans rfl,(kC BK204.out 3).trans rfl,(kC BK204.out 4).trans rfl⟩ (fun hHeld => ?_)
    clear hK K
    refine norm_ (a':=?_) ?_ ?_
    rotate_left
    ·show Act.put _ (some 24) _ = _
     simp only [Act.put,pS]
     rfl
    refine one_ (i:=3) (N:=some 25) #[true,true,true,true,false] rfl rfl (by kernel_rfl) (by decide) (fun K hK => ?_)
    refine goes_ Tryd.func8 (by kernel_rfl) rfl #[.agg #[.slice Ao26 t216.length co26,.slice Ao29 t219.length co29,.int .i64 t222,.int .i64 t223,.int .i64 t224],.agg #[.slice Ao33 t227.length co33,.slice Ao34 t230.length co34,.int .i64 t233,.int .i64 t234,.int .i64 t235]] (by rfl) rfl rfl (by (try simp only [List.map_toArray,List.map_cons,List.map_nil]);first|done|rfl|(simp only [List.length_drop,List.length_take];rfl)) ?_
    with_reducible refine (laws_eqProfile.calls k _ _ t216 _ _ t219 t222 t223 t224 _ _ t227 _ _ t230 t233 t234 t235 true _ ?side1 ?side2 ?side3 ?side4 ?side5 ?side6 ?side7 ?side8 A13.out).mono ?_
    (case side1 => repeat (first|exact (Kd.R_reads' HO218.out).2.2|(with_reducible refine Kd.C_alloc ?_ _)|(with_reducible refine Kd.C_drewN ?_ _)|(with_reducible refine Kd.C_drew ?_)))
    (case side2 => exact (Kd.R_reads' HO218.out).2.1)
    (case side3 => repeat (first|exact (Kd.R_reads' HO221.out).2.2|(with_reducible refine Kd.C_alloc ?_ _)|(with_reducible refine Kd.C_drewN ?_ _)|(with_reducible refine Kd.C_drew ?_)))
    (case side4 => exact (Kd.R_reads' HO221.out).2.1)
    (case side5 => repeat (first|exact (Kd.R_reads' HO229.out).2.2|(with_reducible refine Kd.C_alloc ?_ _)|(with_reducible refine Kd.C_drewN ?_ _)|(with_reducible refine Kd.C_drew ?_)))
    (case side6 => exact (Kd.R_reads' HO229.out).2.1)
    (case side7 => repeat (first|exact (Kd.R_reads' HO232.out).2.2|(with_reducible refine Kd.C_alloc ?_ _)|(with_reducible refine Kd.C_drewN ?_ _)|(with_reducible refine Kd.C_drew ?_)))
    (case side8 => exact (Kd.R_reads' HO232.out).2.1)
    rintro e w35 ⟨rfl,hb⟩
    refine ⟨_,rfl,?_⟩
    have n0_:=Am (Kd.R_below (by (with_reducible repeat (first|apply Kd.R_alloc|apply Kd.R_drewN|apply Kd.R_drew));exact HO208.out) hb)
    have n1_:=Am (Kd.R_below (by (with_reducible repeat (first|apply Kd.R_alloc|apply Kd.R_drewN|apply Kd.R_drew));exact HO211.out) hb)
    have n2_:=Am (Kd.R_below (by (with_reducible repeat (first|apply Kd.R_alloc|apply Kd.R_drewN|apply Kd.R_drew));exact HO218.out) hb)
    have n3_:=Am (Kd.R_below (by (with_reducible repeat (first|apply Kd.R_alloc|apply Kd.R_drewN|apply Kd.R_drew));exact HO221.out) hb)
    have n4_:=Am (Kd.R_below (by (with_reducible repeat (first|apply Kd.R_alloc|apply Kd.R_drewN|apply Kd.R_drew));exact HO229.out) hb)
    have n5_:=Am (Kd.R_below (by (with_reducible repeat (first|apply Kd.R_alloc|apply Kd.R_drewN|apply Kd.R_drew));exact HO232.out) hb)
    have n6_:=Am (blk_below (g:=gb204) (o:=.cells #[.slice A0_0 l0_0.length c0_0,.slice A0_1 l0_1.length c0_1,.int .i64 a0_2,.int .i64 a0_3,.int .i64 a0_4] 25 (0,0)) (by (with_reducible repeat (first|refine kN ?_ _|refine kD ?_|refine kA ?_ _));exact BK204.out) hb)
    have n7_:=Am (blk_below (g:=gb225) (o:=.cells #[.slice Ao26 t216.length co26,.slice Ao29 t219.length co29,.int .i64 t222,.int .i64 t223,.int .i64 t224] 31 (0,0)) (by (with_reducible repeat (first|refine kN ?_ _|refine kD ?_|refine kA ?_ _));exact BK225.out) hb)
    have n8_:=Am (below_step (by repeat (first|(with_reducible first|exact HB.out|apply bA|apply bN|apply bD|refine bS ?_ GE204.out|refine bS ?_ GE225.out)|exact HB.out)) hb)
    clear HO208
    clear HO211
    clear HO218
    clear HO221
    clear HO229
    clear HO232
    clear BK204
    clear BK225
    clear HB
    have HO208:=n0_
    have HO211:=n1_
    have HO218:=n2_
    have HO221:=n3_
    have HO229:=n4_
    have HO232:=n5_
    have BK204:=n6_
    have BK225:=n7_
    have HB:=n8_
    clear n0_ n1_ n2_ n3_ n4_ n5_ n6_ n7_ n8_
    (try clear hb)
    (try clear hb2)
    (try clear hk)
    (try clear hi)
    refine hK.out _ _ ⟨(kC BK225.out 0).trans rfl,(kC BK225.out 1).trans rfl,(kC BK225.out 2).trans rfl,(kC BK225.out 3).trans rfl,(kC BK225.out 4).trans rfl,(kC BK204.out 0).trans rfl,(kC BK204.out 1).trans rfl,(kC BK204.out 2).trans rfl,(kC BK204.out 3).trans rfl,(kC BK204.out 4).trans rfl⟩ (fun hHeld => ?_)
    clear hK K
    refine norm_ (a':=?_) ?_ ?_
    rotate_left
    ·show Act.put _ (some 25) _ = _
     simp only [Act.put,pS]
     rfl
    refine pure_ (i:=4) (N:=some 26) (v:=?_) (a':=?_) #[true,true,true,true,true] rfl rfl (by kernel_rfl) (fun _ _ _ h => h) (Or.inl ⟨by rfl,?_⟩) ?_ ?_
    rotate_left
    ·intro w'
     go_simp
     with_reducible rfl
    rotate_left
    ·simp only [Act.put,pS]
     rfl
    refine done_ (by kernel_rfl) ?_
    try go_wp2
    go_ret
    exact ⟨by first|rfl|(simp [errW_none,errW_some] <;> rfl)|(simp [*,errW_none,errW_some] <;> rfl),by repeat (first|(with_reducible first|exact HB.out|apply bA|apply bN|apply bD|refine bS ?_ GE204.out|refine bS ?_ GE225.out)|exact HB.out)⟩
   ·replace c14:=Bool.eq_false_iff.mpr c14
    subst c14
    have H1 : (some false) = some r:=by rw [if_neg (show ¬ (false = true) by decide)] at H;exact H
    clear H
    have H:=H1
    clear H1
    exact absurd H (by rw [hrt.out];simp)
  ·rw [if_neg c11] at H
   have c11b0 : (t226.toList == t215.toList) = false:=beq_eq_false_iff_ne.mpr c11
   have c11b1 : (t226.toList != t215.toList) = true:=bne_iff_ne.mpr c11
   exact absurd H (by rw [hrt.out];simp)

end Go.Proofs.YtgakkndbcilclaaDoor.PA
