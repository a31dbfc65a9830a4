-- Written by a program of this session (wip/print/myprint.py) over the kit's print, with contracts of its own; not a text of print.sh's.
import Derived.Test.YtgakkndbcilclaaPBx0
import Derived.Test.YtgakkndbcilclaaPBx1
import Derived.Test.YtgakkndbcilclaaPBx3
import Derived.Test.YtgakkndbcilclaaPBx8
import Derived.Test.YtgakkndbcilclaaPBx13
import Derived.Test.YtgakkndbcilclaaPBx17
import Derived.Test.YtgakkndbcilclaaPBx18
import Derived.Test.YtgakkndbcilclaaPBx24
import Derived.Test.YtgakkndbcilclaaPBx25
namespace Go.Proofs.Ytgakkndbcilclaa.PB
open Go.RowKit Go.Proofs.YtgakkndbcilclaaW.PrintWords Go.Proofs.YtgakkndbcilclaaW.PrintLast Go.Proofs.YtgakkndbcilclaaW.PrintMore
attribute [local go_sem] max2_int min2_int max_two min_two   -- for this text's walks alone
set_option linter.unusedVariables false
set_option linter.unusedSimpArgs false

/-! ### laws_FnExactRunOk: function 8 -/
def laws_FnExactRunOk.f (k : Nat) (l0_0 : List (S107)) (l0_1 : List (S109)) (a0_2 : Int) (a0_3 : Int) (a0_4 : Int) (a1 : Int) (a2 : Int) (a3 : Int) (l4 : List Int) : Option (Bool):=if (l4.length : Int) > 1048576 then (some true) else ((laws_szProfile.f l0_0 l0_1 a0_2 a0_3 a0_4 1048576).bind fun t232 => (if t232 < 0 then (some true) else ((laws_toProfile.f k l0_0 l0_1 a0_2 a0_3 a0_4).bind fun bt233 => ((laws_toIntS.f k l4).bind fun t242 => ((spec_RunOk.f k bt233.1 bt233.2.1 bt233.2.2.1 bt233.2.2.2.1 bt233.2.2.2.2 a1 a2 a3 t242).bind fun t245 => ((laws_toProfile.f k l0_0 l0_1 a0_2 a0_3 a0_4).bind fun bt246 => ((laws_toIntS.f k l4).bind fun t256 => ((impl_RunOk.f k bt246.1 bt246.2.1 bt246.2.2.1 bt246.2.2.2.1 bt246.2.2.2.2 a1 a2 a3 t256).bind fun t259 => (if (t259 != t245) = true then (some false) else ((laws_toProfile.f k l0_0 l0_1 a0_2 a0_3 a0_4).bind fun bt260 => ((laws_eqProfile.f k bt246.1 bt246.2.1 bt246.2.2.1 bt246.2.2.2.1 bt246.2.2.2.2 bt260.1 bt260.2.1 bt260.2.2.1 bt260.2.2.2.1 bt260.2.2.2.2).bind fun t269 => (if t269 = true then ((laws_toIntS.f k l4).bind fun t270 => ((laws_eqIntS.f k t256 t270).bind fun t273 => (if t273 = true then (some true) else (some false)))) else (some false)))))))))))))
theorem laws_FnExactRunOk.mono : ∀ a0 a1 a2 a3 a4 a5 a6 a7 a8 k,LeO (laws_FnExactRunOk.f k a0 a1 a2 a3 a4 a5 a6 a7 a8) (laws_FnExactRunOk.f (k + 1) a0 a1 a2 a3 a4 a5 a6 a7 a8):=by
 intro a0 a1 a2 a3 a4 a5 a6 a7 a8 k
 unfold laws_FnExactRunOk.f
 repeat' first
   | (with_reducible exact impl_RunOk.mono _ _ _ _ _ _ _ _ _ _)
   | (with_reducible exact laws_eqIntS.mono _ _ _)
   | (with_reducible exact laws_eqProfile.mono _ _ _ _ _ _ _ _ _ _ _)
   | (with_reducible exact laws_toIntS.mono _ _)
   | (with_reducible exact laws_toProfile.mono _ _ _ _ _ _)
   | (with_reducible exact spec_RunOk.mono _ _ _ _ _ _ _ _ _ _)
   | (with_reducible exact LeO.refl _)
   | (with_reducible exact LeO.none _)
   | (with_reducible refine LeO.ite ?_ ?_)
   | (with_reducible refine LeO.bind ?_ (fun _ => ?_))
   | exact impl_RunOk.mono _ _ _ _ _ _ _ _ _ _
   | exact laws_eqIntS.mono _ _ _
   | exact laws_eqProfile.mono _ _ _ _ _ _ _ _ _ _ _
   | exact laws_toIntS.mono _ _
   | exact laws_toProfile.mono _ _ _ _ _ _
   | exact spec_RunOk.mono _ _ _ _ _ _ _ _ _ _
   | exact LeO.none _
   | refine LeO.ite ?_ ?_
   | refine LeO.bind ?_ (fun _ => ?_)
set_option maxHeartbeats 8000000 in
set_option maxRecDepth 100000 in
theorem laws_FnExactRunOk.calls (k : Nat) (A0_0 : Option Addr) (c0_0 : Nat) (l0_0 : List (S107)) (A0_1 : Option Addr) (c0_1 : Nat) (l0_1 : List (S109)) (a0_2 : Int) (a0_3 : Int) (a0_4 : Int) (a1 : Int) (a2 : Int) (a3 : Int) (A4 : Option Addr) (c4 : Nat) (l4 : List Int) (r : Bool) (w : World) (hr0_0 : Kd.C k107 w A0_0 l0_0.length l0_0) (hc0_0 : l0_0.length ≤ c0_0) (hr0_1 : Kd.C k109 w A0_1 l0_1.length l0_1) (hc0_1 : l0_1.length ≤ c0_1) (hr4 : Kd.C (Kd.int .i64) w A4 l4.length l4) (hc4 : l4.length ≤ c4) (hrt : As (r = true)) (h : laws_FnExactRunOk.f k l0_0 l0_1 a0_2 a0_3 a0_4 a1 a2 a3 l4 = some r) :
  Calls Try.prog 8 #[.agg #[.slice A0_0 l0_0.length c0_0,.slice A0_1 l0_1.length c0_1,.int .i64 a0_2,.int .i64 a0_3,.int .i64 a0_4],.int .i64 a1,.int .i64 a2,.int .i64 a3,.slice A4 l4.length c4] w fun e w' => e = .returned (.bool r)∧Below w.heap.size w w':=by
 have hu25:=Try.underlying25
 have hu31:=Try.underlying31
 have HR0_0:=Am hr0_0
 have HC0_0:=Am hc0_0
 clear hr0_0 hc0_0
 have HR0_1:=Am hr0_1
 have HC0_1:=Am hc0_1
 clear hr0_1 hc0_1
 have HR4:=Am hr4
 have HC4:=Am hc4
 clear hr4 hc4
 have HB:=Am (Below.refl w.heap.size w)
 have H : (if (l4.length : Int) > 1048576 then (some true) else ((laws_szProfile.f l0_0 l0_1 a0_2 a0_3 a0_4 1048576).bind fun t232 => (if t232 < 0 then (some true) else ((laws_toProfile.f k l0_0 l0_1 a0_2 a0_3 a0_4).bind fun bt233 => ((laws_toIntS.f k l4).bind fun t242 => ((spec_RunOk.f k bt233.1 bt233.2.1 bt233.2.2.1 bt233.2.2.2.1 bt233.2.2.2.2 a1 a2 a3 t242).bind fun t245 => ((laws_toProfile.f k l0_0 l0_1 a0_2 a0_3 a0_4).bind fun bt246 => ((laws_toIntS.f k l4).bind fun t256 => ((impl_RunOk.f k bt246.1 bt246.2.1 bt246.2.2.1 bt246.2.2.2.1 bt246.2.2.2.2 a1 a2 a3 t256).bind fun t259 => (if (t259 != t245) = true then (some false) else ((laws_toProfile.f k l0_0 l0_1 a0_2 a0_3 a0_4).bind fun bt260 => ((laws_eqProfile.f k bt246.1 bt246.2.1 bt246.2.2.1 bt246.2.2.2.1 bt246.2.2.2.2 bt260.1 bt260.2.1 bt260.2.2.1 bt260.2.2.2.1 bt260.2.2.2.2).bind fun t269 => (if t269 = true then ((laws_toIntS.f k l4).bind fun t270 => ((laws_eqIntS.f k t256 t270).bind fun t273 => (if t273 = true then (some true) else (some false)))) else (some false)))))))))))))) = some r:=h
 clear h
 by_cases c6 : (l4.length : Int) > 1048576
 ·rw [if_pos c6] at H
  have c6b0 : decide (1048576 < (l4.length : Int)) = true:=decide_eq_true c6
  have c6b1 : decide (1048576 < l4.length) = true:=decide_eq_true (by omega)
  clear c6
  obtain rfl:=Option.some.inj H
  go_enter Try.func8,Try.ntmps8
  go_wp2_with (first|((with_reducible refine gate_dst (N:=5) rfl ?_);refine box_event ?hg (N:=5) ?hd (cs:=#[.slice A0_0 l0_0.length c0_0,.slice A0_1 l0_1.length c0_1,.int .i64 a0_2,.int .i64 a0_3,.int .i64 a0_4]) (t:=25) ?hr ?_;(case hd => rfl);(case hg => rfl);(case hr => first|(go_simp;done)|(go_simp;rfl));intro gb231 hg w7 hbox hb;have n0_:=Am (below_step (by repeat (first|(with_reducible first|exact HB.out|apply bA|apply bN|apply bD)|exact HB.out)) hb);have n1_:=Am (hbox);have n2_:=Am ((by rw [hg];exact (below_size (by repeat (first|(with_reducible first|exact HB.out|apply bA|apply bN|apply bD)|exact HB.out))) : w.heap.size ≤ gb231));have n3_:=Am ((by rw [hg];exact (below_size (by repeat (first|(with_reducible first|exact HB.out|apply bA|apply bN|apply bD)|exact HB.out))) : w.heap.size ≤ gb231));clear HB;have HB:=n0_;have BK231:=n1_;have GW231:=n2_;have GE231:=n3_;clear n0_ n1_ n2_ n3_;clear hb hbox hg))
  go_ret
  exact ⟨by first|rfl|(simp [errW_none,errW_some] <;> rfl)|(simp [*,errW_none,errW_some] <;> rfl),by repeat (first|(with_reducible first|exact HB.out|apply bA|apply bN|apply bD|refine bS ?_ GE231.out)|exact HB.out)⟩
 ·rw [if_neg c6] at H
  have c6b0 : decide (1048576 < (l4.length : Int)) = false:=decide_eq_false c6
  have c6b1 : decide (1048576 < l4.length) = false:=decide_eq_false (by omega)
  clear c6
  replace H:=Option.bind_eq_some_iff.mp H
  obtain ⟨t232,A80,H⟩:=H
  replace H : (if t232 < 0 then (some true) else ((laws_toProfile.f k l0_0 l0_1 a0_2 a0_3 a0_4).bind fun bt233 => ((laws_toIntS.f k l4).bind fun t242 => ((spec_RunOk.f k bt233.1 bt233.2.1 bt233.2.2.1 bt233.2.2.2.1 bt233.2.2.2.2 a1 a2 a3 t242).bind fun t245 => ((laws_toProfile.f k l0_0 l0_1 a0_2 a0_3 a0_4).bind fun bt246 => ((laws_toIntS.f k l4).bind fun t256 => ((impl_RunOk.f k bt246.1 bt246.2.1 bt246.2.2.1 bt246.2.2.2.1 bt246.2.2.2.2 a1 a2 a3 t256).bind fun t259 => (if (t259 != t245) = true then (some false) else ((laws_toProfile.f k l0_0 l0_1 a0_2 a0_3 a0_4).bind fun bt260 => ((laws_eqProfile.f k bt246.1 bt246.2.1 bt246.2.2.1 bt246.2.2.2.1 bt246.2.2.2.2 bt260.1 bt260.2.1 bt260.2.2.1 bt260.2.2.2.1 bt260.2.2.2.2).bind fun t269 => (if t269 = true then ((laws_toIntS.f k l4).bind fun t270 => ((laws_eqIntS.f k t256 t270).bind fun t273 => (if t273 = true then (some true) else (some false)))) else (some false)))))))))))) = some r:=H
  have A8:=Am A80
  clear A80
  by_cases c9 : t232 < 0
  ·rw [if_pos c9] at H
   have c9b0 : decide (t232 < 0) = true:=decide_eq_true c9
   clear c9
   obtain rfl:=Option.some.inj H
   go_enter Try.func8,Try.ntmps8
   go_wp2_with (first|((with_reducible refine gate_dst (N:=5) rfl ?_);refine box_event ?hg (N:=5) ?hd (cs:=#[.slice A0_0 l0_0.length c0_0,.slice A0_1 l0_1.length c0_1,.int .i64 a0_2,.int .i64 a0_3,.int .i64 a0_4]) (t:=25) ?hr ?_;(case hd => rfl);(case hg => rfl);(case hr => first|(go_simp;done)|(go_simp;rfl));intro gb231 hg w10 hbox hb;have n0_:=Am (below_step (by repeat (first|(with_reducible first|exact HB.out|apply bA|apply bN|apply bD)|exact HB.out)) hb);have n1_:=Am (hbox);have n2_:=Am ((by rw [hg];exact (below_size (by repeat (first|(with_reducible first|exact HB.out|apply bA|apply bN|apply bD)|exact HB.out))) : w.heap.size ≤ gb231));have n3_:=Am ((by rw [hg];exact (below_size (by repeat (first|(with_reducible first|exact HB.out|apply bA|apply bN|apply bD)|exact HB.out))) : w.heap.size ≤ gb231));clear HB;have HB:=n0_;have BK231:=n1_;have GW231:=n2_;have GE231:=n3_;clear n0_ n1_ n2_ n3_;clear hb hbox hg;have hcz11_0 : w10.cell? ⟨gb231,0,none⟩ = some (.slice A0_0 l0_0.length c0_0):=(kC BK231.out 0).trans rfl;have hcz11_1 : w10.cell? ⟨gb231,1,none⟩ = some (.slice A0_1 l0_1.length c0_1):=(kC BK231.out 1).trans rfl;have hcz11_2 : w10.cell? ⟨gb231,2,none⟩ = some (.int .i64 a0_2):=(kC BK231.out 2).trans rfl;have hcz11_3 : w10.cell? ⟨gb231,3,none⟩ = some (.int .i64 a0_3):=(kC BK231.out 3).trans rfl;have hcz11_4 : w10.cell? ⟨gb231,4,none⟩ = some (.int .i64 a0_4):=(kC BK231.out 4).trans rfl;have hfz11_0:=kF BK231.out 0;have hfz11_1:=kF BK231.out 1;have hfz11_2:=kF BK231.out 2;have hfz11_3:=kF BK231.out 3;have hfz11_4:=kF BK231.out 4)|((with_reducible refine gate_callee (f:=14) rfl ?_);refine goesL_ (some 21) rfl rfl Try.func14 (by kernel_rfl) rfl #[.agg #[.slice A0_0 l0_0.length c0_0,.slice A0_1 l0_1.length c0_1,.int .i64 a0_2,.int .i64 a0_3,.int .i64 a0_4],.int .i64 1048576] rfl (by (try simp only [List.map_toArray,List.map_cons,List.map_nil]);first|done|rfl|(simp only [List.length_drop,List.length_take];rfl)) ?_;(with_reducible refine (laws_szProfile.calls _ _ l0_0 _ _ l0_1 a0_2 a0_3 a0_4 1048576 t232 _ ?side1 ?side2 ?side3 ?side4 A8.out).mono ?_);(case side1 => repeat (first|exact (Kd.C_below HR0_0.out HB.out)|(with_reducible refine Kd.C_alloc ?_ _)|(with_reducible refine Kd.C_drewN ?_ _)|(with_reducible refine Kd.C_drew ?_)));(case side2 => exact HC0_0.out);(case side3 => repeat (first|exact (Kd.C_below HR0_1.out HB.out)|(with_reducible refine Kd.C_alloc ?_ _)|(with_reducible refine Kd.C_drewN ?_ _)|(with_reducible refine Kd.C_drew ?_)));(case side4 => exact HC0_1.out);rintro e w12 ⟨rfl,hb⟩;refine ⟨_,rfl,?_⟩;have n0_:=Am (blk_below (g:=gb231) (o:=.cells #[.slice A0_0 l0_0.length c0_0,.slice A0_1 l0_1.length c0_1,.int .i64 a0_2,.int .i64 a0_3,.int .i64 a0_4] 25 (0,0)) (by (with_reducible repeat (first|refine kN ?_ _|refine kD ?_|refine kA ?_ _));exact BK231.out) hb);have n1_:=Am (below_step (by repeat (first|(with_reducible first|exact HB.out|apply bA|apply bN|apply bD|refine bS ?_ GE231.out)|exact HB.out)) hb);clear BK231;clear HB;have BK231:=n0_;have HB:=n1_;clear n0_ n1_;(try clear hb);(try clear hb2);(try clear hk);(try clear hi)))
   go_ret
   exact ⟨by first|rfl|(simp [errW_none,errW_some] <;> rfl)|(simp [*,errW_none,errW_some] <;> rfl),by repeat (first|(with_reducible first|exact HB.out|apply bA|apply bN|apply bD|refine bS ?_ GE231.out)|exact HB.out)⟩
  ·rw [if_neg c9] at H
   have c9b0 : decide (t232 < 0) = false:=decide_eq_false c9
   clear c9
   replace H:=Option.bind_eq_some_iff.mp H
   obtain ⟨⟨t233,t236,t239,t240,t241⟩,A130,H⟩:=H
   replace H : ((laws_toIntS.f k l4).bind fun t242 => ((spec_RunOk.f k t233 t236 t239 t240 t241 a1 a2 a3 t242).bind fun t245 => ((laws_toProfile.f k l0_0 l0_1 a0_2 a0_3 a0_4).bind fun bt246 => ((laws_toIntS.f k l4).bind fun t256 => ((impl_RunOk.f k bt246.1 bt246.2.1 bt246.2.2.1 bt246.2.2.2.1 bt246.2.2.2.2 a1 a2 a3 t256).bind fun t259 => (if (t259 != t245) = true then (some false) else ((laws_toProfile.f k l0_0 l0_1 a0_2 a0_3 a0_4).bind fun bt260 => ((laws_eqProfile.f k bt246.1 bt246.2.1 bt246.2.2.1 bt246.2.2.2.1 bt246.2.2.2.2 bt260.1 bt260.2.1 bt260.2.2.1 bt260.2.2.2.1 bt260.2.2.2.2).bind fun t269 => (if t269 = true then ((laws_toIntS.f k l4).bind fun t270 => ((laws_eqIntS.f k t256 t270).bind fun t273 => (if t273 = true then (some true) else (some false)))) else (some false)))))))))) = some r:=H
   have A13:=Am A130
   clear A130
   replace H:=Option.bind_eq_some_iff.mp H
   obtain ⟨t242,A140,H⟩:=H
   replace H : ((spec_RunOk.f k t233 t236 t239 t240 t241 a1 a2 a3 t242).bind fun t245 => ((laws_toProfile.f k l0_0 l0_1 a0_2 a0_3 a0_4).bind fun bt246 => ((laws_toIntS.f k l4).bind fun t256 => ((impl_RunOk.f k bt246.1 bt246.2.1 bt246.2.2.1 bt246.2.2.2.1 bt246.2.2.2.2 a1 a2 a3 t256).bind fun t259 => (if (t259 != t245) = true then (some false) else ((laws_toProfile.f k l0_0 l0_1 a0_2 a0_3 a0_4).bind fun bt260 => ((laws_eqProfile.f k bt246.1 bt246.2.1 bt246.2.2.1 bt246.2.2.2.1 bt246.2.2.2.2 bt260.1 bt260.2.1 bt260.2.2.1 bt260.2.2.2.1 bt260.2.2.2.2).bind fun t269 => (if t269 = true then ((laws_toIntS.f k l4).bind fun t270 => ((laws_eqIntS.f k t256 t270).bind fun t273 => (if t273 = true then (some true) else (some false)))) else (some false))))))))) = some r:=H
   have A14:=Am A140
   clear A140
   replace H:=Option.bind_eq_some_iff.mp H
   obtain ⟨t245,A150,H⟩:=H
   replace H : ((laws_toProfile.f k l0_0 l0_1 a0_2 a0_3 a0_4).bind fun bt246 => ((laws_toIntS.f k l4).bind fun t256 => ((impl_RunOk.f k bt246.1 bt246.2.1 bt246.2.2.1 bt246.2.2.2.1 bt246.2.2.2.2 a1 a2 a3 t256).bind fun t259 => (if (t259 != t245) = true then (some false) else ((laws_toProfile.f k l0_0 l0_1 a0_2 a0_3 a0_4).bind fun bt260 => ((laws_eqProfile.f k bt246.1 bt246.2.1 bt246.2.2.1 bt246.2.2.2.1 bt246.2.2.2.2 bt260.1 bt260.2.1 bt260.2.2.1 bt260.2.2.2.1 bt260.2.2.2.2).bind fun t269 => (if t269 = true then ((laws_toIntS.f k l4).bind fun t270 => ((laws_eqIntS.f k t256 t270).bind fun t273 => (if t273 = true then (some true) else (some false)))) else (some false)))))))) = some r:=H
   have A15:=Am A150
   clear A150
   replace H:=Option.bind_eq_some_iff.mp H
   obtain ⟨⟨t246,t249,t252,t253,t254⟩,A160,H⟩:=H
   replace H : ((laws_toIntS.f k l4).bind fun t256 => ((impl_RunOk.f k t246 t249 t252 t253 t254 a1 a2 a3 t256).bind fun t259 => (if (t259 != t245) = true then (some false) else ((laws_toProfile.f k l0_0 l0_1 a0_2 a0_3 a0_4).bind fun bt260 => ((laws_eqProfile.f k t246 t249 t252 t253 t254 bt260.1 bt260.2.1 bt260.2.2.1 bt260.2.2.2.1 bt260.2.2.2.2).bind fun t269 => (if t269 = true then ((laws_toIntS.f k l4).bind fun t270 => ((laws_eqIntS.f k t256 t270).bind fun t273 => (if t273 = true then (some true) else (some false)))) else (some false))))))) = some r:=H
   have A16:=Am A160
   clear A160
   replace H:=Option.bind_eq_some_iff.mp H
   obtain ⟨t256,A170,H⟩:=H
   replace H : ((impl_RunOk.f k t246 t249 t252 t253 t254 a1 a2 a3 t256).bind fun t259 => (if (t259 != t245) = true then (some false) else ((laws_toProfile.f k l0_0 l0_1 a0_2 a0_3 a0_4).bind fun bt260 => ((laws_eqProfile.f k t246 t249 t252 t253 t254 bt260.1 bt260.2.1 bt260.2.2.1 bt260.2.2.2.1 bt260.2.2.2.2).bind fun t269 => (if t269 = true then ((laws_toIntS.f k l4).bind fun t270 => ((laws_eqIntS.f k t256 t270).bind fun t273 => (if t273 = true then (some true) else (some false)))) else (some false)))))) = some r:=H
   have A17:=Am A170
   clear A170
   replace H:=Option.bind_eq_some_iff.mp H
   obtain ⟨t259,A180,H⟩:=H
   replace H : (if (t259 != t245) = true then (some false) else ((laws_toProfile.f k l0_0 l0_1 a0_2 a0_3 a0_4).bind fun bt260 => ((laws_eqProfile.f k t246 t249 t252 t253 t254 bt260.1 bt260.2.1 bt260.2.2.1 bt260.2.2.2.1 bt260.2.2.2.2).bind fun t269 => (if t269 = true then ((laws_toIntS.f k l4).bind fun t270 => ((laws_eqIntS.f k t256 t270).bind fun t273 => (if t273 = true then (some true) else (some false)))) else (some false))))) = some r:=H
   have A18:=Am A180
   clear A180
   by_cases c19 : (t259 != t245) = true
   ·rw [if_pos c19] at H
    have c19b0 : (t259 != t245) = true:=c19
    (try (have c19b1 : decide (t259 = t245) = false:=by simpa using c19))
    (try (have c19b2 : (t259 == t245) = false:=by simpa using c19))
    (try (have c19b3 : ¬ (t259 = t245):=by simpa using c19))
    clear c19
    exact absurd H (by rw [hrt.out];simp)
   ·rw [if_neg c19] at H
    have c19b0 : (t259 != t245) = false:=by simpa using c19
    (try (have c19b1 : decide (t259 = t245) = true:=by simpa using c19))
    (try (have c19b2 : (t259 == t245) = true:=by simpa using c19))
    clear c19
    replace H:=Option.bind_eq_some_iff.mp H
    obtain ⟨⟨t260,t263,t266,t267,t268⟩,A200,H⟩:=H
    replace H : ((laws_eqProfile.f k t246 t249 t252 t253 t254 t260 t263 t266 t267 t268).bind fun t269 => (if t269 = true then ((laws_toIntS.f k l4).bind fun t270 => ((laws_eqIntS.f k t256 t270).bind fun t273 => (if t273 = true then (some true) else (some false)))) else (some false))) = some r:=H
    have A20:=Am A200
    clear A200
    replace H:=Option.bind_eq_some_iff.mp H
    obtain ⟨t269,A210,H⟩:=H
    replace H : (if t269 = true then ((laws_toIntS.f k l4).bind fun t270 => ((laws_eqIntS.f k t256 t270).bind fun t273 => (if t273 = true then (some true) else (some false)))) else (some false)) = some r:=H
    have A21:=Am A210
    clear A210
    by_cases c22 : t269 = true
    ·subst c22
     have H1 : ((laws_toIntS.f k l4).bind fun t270 => ((laws_eqIntS.f k t256 t270).bind fun t273 => (if t273 = true then (some true) else (some false)))) = some r:=by rw [if_pos rfl] at H;exact H
     clear H
     have H:=H1
     clear H1
     replace H:=Option.bind_eq_some_iff.mp H
     obtain ⟨t270,A230,H⟩:=H
     replace H : ((laws_eqIntS.f k t256 t270).bind fun t273 => (if t273 = true then (some true) else (some false))) = some r:=H
     have A23:=Am A230
     clear A230
     replace H:=Option.bind_eq_some_iff.mp H
     obtain ⟨t273,A240,H⟩:=H
     replace H : (if t273 = true then (some true) else (some false)) = some r:=H
     have A24:=Am A240
     clear A240
     by_cases c25 : t273 = true
     ·subst c25
      have H1 : (some true) = some r:=by rw [if_pos rfl] at H;exact H
      clear H
      have H:=H1
      clear H1
      obtain rfl:=Option.some.inj H
      go_enter Try.func8,Try.ntmps8
      try go_wp2_with (first|((with_reducible refine gate_dst (N:=5) rfl ?_);refine box_event ?hg (N:=5) ?hd (cs:=#[.slice A0_0 l0_0.length c0_0,.slice A0_1 l0_1.length c0_1,.int .i64 a0_2,.int .i64 a0_3,.int .i64 a0_4]) (t:=25) ?hr ?_;(case hd => rfl);(case hg => rfl);(case hr => first|(go_simp;done)|(go_simp;rfl));intro gb231 hg w26 hbox hb;have n0_:=Am (below_step (by repeat (first|(with_reducible first|exact HB.out|apply bA|apply bN|apply bD)|exact HB.out)) hb);have n1_:=Am (hbox);have n2_:=Am ((by rw [hg];exact (below_size (by repeat (first|(with_reducible first|exact HB.out|apply bA|apply bN|apply bD)|exact HB.out))) : w.heap.size ≤ gb231));have n3_:=Am ((by rw [hg];exact (below_size (by repeat (first|(with_reducible first|exact HB.out|apply bA|apply bN|apply bD)|exact HB.out))) : w.heap.size ≤ gb231));clear HB;have HB:=n0_;have BK231:=n1_;have GW231:=n2_;have GE231:=n3_;clear n0_ n1_ n2_ n3_;clear hb hbox hg;have hcz27_0 : w26.cell? ⟨gb231,0,none⟩ = some (.slice A0_0 l0_0.length c0_0):=(kC BK231.out 0).trans rfl;have hcz27_1 : w26.cell? ⟨gb231,1,none⟩ = some (.slice A0_1 l0_1.length c0_1):=(kC BK231.out 1).trans rfl;have hcz27_2 : w26.cell? ⟨gb231,2,none⟩ = some (.int .i64 a0_2):=(kC BK231.out 2).trans rfl;have hcz27_3 : w26.cell? ⟨gb231,3,none⟩ = some (.int .i64 a0_3):=(kC BK231.out 3).trans rfl;have hcz27_4 : w26.cell? ⟨gb231,4,none⟩ = some (.int .i64 a0_4):=(kC BK231.out 4).trans rfl;have hfz27_0:=kF BK231.out 0;have hfz27_1:=kF BK231.out 1;have hfz27_2:=kF BK231.out 2;have hfz27_3:=kF BK231.out 3;have hfz27_4:=kF BK231.out 4)|((with_reducible refine gate_callee (f:=14) rfl ?_);refine goesL_ (some 21) rfl rfl Try.func14 (by kernel_rfl) rfl #[.agg #[.slice A0_0 l0_0.length c0_0,.slice A0_1 l0_1.length c0_1,.int .i64 a0_2,.int .i64 a0_3,.int .i64 a0_4],.int .i64 1048576] rfl (by (try simp only [List.map_toArray,List.map_cons,List.map_nil]);first|done|rfl|(simp only [List.length_drop,List.length_take];rfl)) ?_;(with_reducible refine (laws_szProfile.calls _ _ l0_0 _ _ l0_1 a0_2 a0_3 a0_4 1048576 t232 _ ?side1 ?side2 ?side3 ?side4 A8.out).mono ?_);(case side1 => repeat (first|exact (Kd.C_below HR0_0.out HB.out)|(with_reducible refine Kd.C_alloc ?_ _)|(with_reducible refine Kd.C_drewN ?_ _)|(with_reducible refine Kd.C_drew ?_)));(case side2 => exact HC0_0.out);(case side3 => repeat (first|exact (Kd.C_below HR0_1.out HB.out)|(with_reducible refine Kd.C_alloc ?_ _)|(with_reducible refine Kd.C_drewN ?_ _)|(with_reducible refine Kd.C_drew ?_)));(case side4 => exact HC0_1.out);rintro e w28 ⟨rfl,hb⟩;refine ⟨_,rfl,?_⟩;have n0_:=Am (blk_below (g:=gb231) (o:=.cells #[.slice A0_0 l0_0.length c0_0,.slice A0_1 l0_1.length c0_1,.int .i64 a0_2,.int .i64 a0_3,.int .i64 a0_4] 25 (0,0)) (by (with_reducible repeat (first|refine kN ?_ _|refine kD ?_|refine kA ?_ _));exact BK231.out) hb);have n1_:=Am (below_step (by repeat (first|(with_reducible first|exact HB.out|apply bA|apply bN|apply bD|refine bS ?_ GE231.out)|exact HB.out)) hb);clear BK231;clear HB;have BK231:=n0_;have HB:=n1_;clear n0_ n1_;(try clear hb);(try clear hb2);(try clear hk);(try clear hi);have hcz29_0 : w28.cell? ⟨gb231,0,none⟩ = some (.slice A0_0 l0_0.length c0_0):=(kC BK231.out 0).trans rfl;have hcz29_1 : w28.cell? ⟨gb231,1,none⟩ = some (.slice A0_1 l0_1.length c0_1):=(kC BK231.out 1).trans rfl;have hcz29_2 : w28.cell? ⟨gb231,2,none⟩ = some (.int .i64 a0_2):=(kC BK231.out 2).trans rfl;have hcz29_3 : w28.cell? ⟨gb231,3,none⟩ = some (.int .i64 a0_3):=(kC BK231.out 3).trans rfl;have hcz29_4 : w28.cell? ⟨gb231,4,none⟩ = some (.int .i64 a0_4):=(kC BK231.out 4).trans rfl;have hfz29_0:=kF BK231.out 0;have hfz29_1:=kF BK231.out 1;have hfz29_2:=kF BK231.out 2;have hfz29_3:=kF BK231.out 3;have hfz29_4:=kF BK231.out 4)|((with_reducible refine gate_callee (f:=16) rfl ?_);refine goesL_ (some 25) rfl rfl Try.func16 (by kernel_rfl) rfl #[.agg #[.slice A0_0 l0_0.length c0_0,.slice A0_1 l0_1.length c0_1,.int .i64 a0_2,.int .i64 a0_3,.int .i64 a0_4]] rfl (by (try simp only [List.map_toArray,List.map_cons,List.map_nil]);first|done|rfl|(simp only [List.length_drop,List.length_take];rfl)) ?_;(with_reducible refine (laws_toProfile.calls k _ _ l0_0 _ _ l0_1 a0_2 a0_3 a0_4 t233 t236 t239 t240 t241 _ ?side1 ?side2 ?side3 ?side4 A13.out).mono ?_);(case side1 => repeat (first|exact (Kd.C_below HR0_0.out HB.out)|(with_reducible refine Kd.C_alloc ?_ _)|(with_reducible refine Kd.C_drewN ?_ _)|(with_reducible refine Kd.C_drew ?_)));(case side2 => exact HC0_0.out);(case side3 => repeat (first|exact (Kd.C_below HR0_1.out HB.out)|(with_reducible refine Kd.C_alloc ?_ _)|(with_reducible refine Kd.C_drewN ?_ _)|(with_reducible refine Kd.C_drew ?_)));(case side4 => exact HC0_1.out);rintro e w30 ⟨v234,v237,rfl,ho0,ho1,hb⟩;refine ⟨_,rfl,?_⟩;have n0_:=Am (Kd.R_lower ho0 (below_size (by repeat (first|(with_reducible first|exact HB.out|apply bA|apply bN|apply bD|refine bS ?_ GE231.out)|exact HB.out))));have n1_:=Am (Kd.R_lower ho1 (below_size (by repeat (first|(with_reducible first|exact HB.out|apply bA|apply bN|apply bD|refine bS ?_ GE231.out)|exact HB.out))));have n2_:=Am (blk_below (g:=gb231) (o:=.cells #[.slice A0_0 l0_0.length c0_0,.slice A0_1 l0_1.length c0_1,.int .i64 a0_2,.int .i64 a0_3,.int .i64 a0_4] 25 (0,0)) (by (with_reducible repeat (first|refine kN ?_ _|refine kD ?_|refine kA ?_ _));exact BK231.out) hb);have n3_:=Am (below_step (by repeat (first|(with_reducible first|exact HB.out|apply bA|apply bN|apply bD|refine bS ?_ GE231.out)|exact HB.out)) hb);clear BK231;clear HB;have HO235:=n0_;have HO238:=n1_;have BK231:=n2_;have HB:=n3_;clear n0_ n1_ n2_ n3_;(try clear hb);(try clear hb2);(try clear hk);(try clear hi);(try clear ho0);(try clear ho1))|((with_reducible refine gate_callee (f:=28) rfl ?_);refine goesL_ (some 30) rfl rfl Try.func28 (by kernel_rfl) rfl #[.slice A4 l4.length c4] rfl (by (try simp only [List.map_toArray,List.map_cons,List.map_nil]);first|done|rfl|(simp only [List.length_drop,List.length_take];rfl)) ?_;(with_reducible refine (laws_toIntS.calls k _ _ l4 t242 _ ?side1 ?side2 A14.out).mono ?_);(case side1 => repeat (first|exact (Kd.C_below HR4.out HB.out)|(with_reducible refine Kd.C_alloc ?_ _)|(with_reducible refine Kd.C_drewN ?_ _)|(with_reducible refine Kd.C_drew ?_)));(case side2 => exact HC4.out);rintro e w31 ⟨v243,rfl,ho0,hb⟩;refine ⟨_,rfl,?_⟩;have n0_:=Am (Kd.R_below (by (with_reducible repeat (first|apply Kd.R_alloc|apply Kd.R_drewN|apply Kd.R_drew));exact HO235.out) hb);have n1_:=Am (Kd.R_below (by (with_reducible repeat (first|apply Kd.R_alloc|apply Kd.R_drewN|apply Kd.R_drew));exact HO238.out) hb);have n2_:=Am (Kd.R_lower ho0 (below_size (by repeat (first|(with_reducible first|exact HB.out|apply bA|apply bN|apply bD|refine bS ?_ GE231.out)|exact HB.out))));have n3_:=Am (blk_below (g:=gb231) (o:=.cells #[.slice A0_0 l0_0.length c0_0,.slice A0_1 l0_1.length c0_1,.int .i64 a0_2,.int .i64 a0_3,.int .i64 a0_4] 25 (0,0)) (by (with_reducible repeat (first|refine kN ?_ _|refine kD ?_|refine kA ?_ _));exact BK231.out) hb);have n4_:=Am (below_step (by repeat (first|(with_reducible first|exact HB.out|apply bA|apply bN|apply bD|refine bS ?_ GE231.out)|exact HB.out)) hb);clear HO235;clear HO238;clear BK231;clear HB;have HO235:=n0_;have HO238:=n1_;have HO244:=n2_;have BK231:=n3_;have HB:=n4_;clear n0_ n1_ n2_ n3_ n4_;(try clear hb);(try clear hb2);(try clear hk);(try clear hi);(try clear ho0);obtain ⟨Ao32,co32,eo32⟩:=Kd.R_slice HO235.out;subst eo32;obtain ⟨Ao33,co33,eo33⟩:=Kd.R_slice HO238.out;subst eo33;obtain ⟨Ao34,co34,eo34⟩:=Kd.R_slice HO244.out;subst eo34)|((with_reducible refine gate_callee (f:=27) rfl ?_);refine goesL_ (some 31) rfl rfl Try.func27 (by kernel_rfl) rfl #[.agg #[.slice Ao32 t233.length co32,.slice Ao33 t236.length co33,.int .i64 t239,.int .i64 t240,.int .i64 t241],.int .i64 a1,.int .i64 a2,.int .i64 a3,.slice Ao34 t242.length co34] rfl (by (try simp only [List.map_toArray,List.map_cons,List.map_nil]);first|done|rfl|(simp only [List.length_drop,List.length_take];rfl)) ?_;(with_reducible refine (spec_RunOk.calls k _ _ t233 _ _ t236 t239 t240 t241 a1 a2 a3 _ _ t242 t245 _ ?side1 ?side2 ?side3 ?side4 ?side5 ?side6 A15.out).mono ?_);(case side1 => repeat (first|exact (Kd.R_reads' HO235.out).2.2|(with_reducible refine Kd.C_alloc ?_ _)|(with_reducible refine Kd.C_drewN ?_ _)|(with_reducible refine Kd.C_drew ?_)));(case side2 => exact (Kd.R_reads' HO235.out).2.1);(case side3 => repeat (first|exact (Kd.R_reads' HO238.out).2.2|(with_reducible refine Kd.C_alloc ?_ _)|(with_reducible refine Kd.C_drewN ?_ _)|(with_reducible refine Kd.C_drew ?_)));(case side4 => exact (Kd.R_reads' HO238.out).2.1);(case side5 => repeat (first|exact (Kd.R_reads' HO244.out).2.2|(with_reducible refine Kd.C_alloc ?_ _)|(with_reducible refine Kd.C_drewN ?_ _)|(with_reducible refine Kd.C_drew ?_)));(case side6 => exact (Kd.R_reads' HO244.out).2.1);rintro e w35 ⟨rfl,hb⟩;refine ⟨_,rfl,?_⟩;have n0_:=Am (Kd.R_below (by (with_reducible repeat (first|apply Kd.R_alloc|apply Kd.R_drewN|apply Kd.R_drew));exact HO235.out) hb);have n1_:=Am (Kd.R_below (by (with_reducible repeat (first|apply Kd.R_alloc|apply Kd.R_drewN|apply Kd.R_drew));exact HO238.out) hb);have n2_:=Am (Kd.R_below (by (with_reducible repeat (first|apply Kd.R_alloc|apply Kd.R_drewN|apply Kd.R_drew));exact HO244.out) hb);have n3_:=Am (blk_below (g:=gb231) (o:=.cells #[.slice A0_0 l0_0.length c0_0,.slice A0_1 l0_1.length c0_1,.int .i64 a0_2,.int .i64 a0_3,.int .i64 a0_4] 25 (0,0)) (by (with_reducible repeat (first|refine kN ?_ _|refine kD ?_|refine kA ?_ _));exact BK231.out) hb);have n4_:=Am (below_step (by repeat (first|(with_reducible first|exact HB.out|apply bA|apply bN|apply bD|refine bS ?_ GE231.out)|exact HB.out)) hb);clear HO235;clear HO238;clear HO244;clear BK231;clear HB;have HO235:=n0_;have HO238:=n1_;have HO244:=n2_;have BK231:=n3_;have HB:=n4_;clear n0_ n1_ n2_ n3_ n4_;(try clear hb);(try clear hb2);(try clear hk);(try clear hi);have hcz36_0 : w35.cell? ⟨gb231,0,none⟩ = some (.slice A0_0 l0_0.length c0_0):=(kC BK231.out 0).trans rfl;have hcz36_1 : w35.cell? ⟨gb231,1,none⟩ = some (.slice A0_1 l0_1.length c0_1):=(kC BK231.out 1).trans rfl;have hcz36_2 : w35.cell? ⟨gb231,2,none⟩ = some (.int .i64 a0_2):=(kC BK231.out 2).trans rfl;have hcz36_3 : w35.cell? ⟨gb231,3,none⟩ = some (.int .i64 a0_3):=(kC BK231.out 3).trans rfl;have hcz36_4 : w35.cell? ⟨gb231,4,none⟩ = some (.int .i64 a0_4):=(kC BK231.out 4).trans rfl;have hfz36_0:=kF BK231.out 0;have hfz36_1:=kF BK231.out 1;have hfz36_2:=kF BK231.out 2;have hfz36_3:=kF BK231.out 3;have hfz36_4:=kF BK231.out 4)|((with_reducible refine gate_callee (f:=16) rfl ?_);refine goesL_ (some 33) rfl rfl Try.func16 (by kernel_rfl) rfl #[.agg #[.slice A0_0 l0_0.length c0_0,.slice A0_1 l0_1.length c0_1,.int .i64 a0_2,.int .i64 a0_3,.int .i64 a0_4]] rfl (by (try simp only [List.map_toArray,List.map_cons,List.map_nil]);first|done|rfl|(simp only [List.length_drop,List.length_take];rfl)) ?_;(with_reducible refine (laws_toProfile.calls k _ _ l0_0 _ _ l0_1 a0_2 a0_3 a0_4 t246 t249 t252 t253 t254 _ ?side1 ?side2 ?side3 ?side4 A16.out).mono ?_);(case side1 => repeat (first|exact (Kd.C_below HR0_0.out HB.out)|(with_reducible refine Kd.C_alloc ?_ _)|(with_reducible refine Kd.C_drewN ?_ _)|(with_reducible refine Kd.C_drew ?_)));(case side2 => exact HC0_0.out);(case side3 => repeat (first|exact (Kd.C_below HR0_1.out HB.out)|(with_reducible refine Kd.C_alloc ?_ _)|(with_reducible refine Kd.C_drewN ?_ _)|(with_reducible refine Kd.C_drew ?_)));(case side4 => exact HC0_1.out);rintro e w37 ⟨v247,v250,rfl,ho0,ho1,hb⟩;refine ⟨_,rfl,?_⟩;have n0_:=Am (Kd.R_elder' (by (with_reducible repeat (first|apply Kd.R_alloc|apply Kd.R_drewN|apply Kd.R_drew));exact HO235.out) (Kd.R_base ho0) hb);have n1_:=Am (Kd.R_elder' (by (with_reducible repeat (first|apply Kd.R_alloc|apply Kd.R_drewN|apply Kd.R_drew));exact HO238.out) (Kd.R_base ho1) hb);have n2_:=Am (Kd.R_below (by (with_reducible repeat (first|apply Kd.R_alloc|apply Kd.R_drewN|apply Kd.R_drew));exact HO244.out) hb);have n3_:=Am (Kd.R_lower (Kd.R_new' ho0 (Kd.R_lt (by (with_reducible repeat (first|apply Kd.R_alloc|apply Kd.R_drewN|apply Kd.R_drew));exact HO235.out))) (below_size (by repeat (first|(with_reducible first|exact HB.out|apply bA|apply bN|apply bD|refine bS ?_ GE231.out)|exact HB.out))));have n4_:=Am (Kd.R_lower (Kd.R_new' ho1 (Kd.R_lt (by (with_reducible repeat (first|apply Kd.R_alloc|apply Kd.R_drewN|apply Kd.R_drew));exact HO238.out))) (below_size (by repeat (first|(with_reducible first|exact HB.out|apply bA|apply bN|apply bD|refine bS ?_ GE231.out)|exact HB.out))));have n5_:=Am (blk_below (g:=gb231) (o:=.cells #[.slice A0_0 l0_0.length c0_0,.slice A0_1 l0_1.length c0_1,.int .i64 a0_2,.int .i64 a0_3,.int .i64 a0_4] 25 (0,0)) (by (with_reducible repeat (first|refine kN ?_ _|refine kD ?_|refine kA ?_ _));exact BK231.out) hb);have n6_:=Am (below_step (by repeat (first|(with_reducible first|exact HB.out|apply bA|apply bN|apply bD|refine bS ?_ GE231.out)|exact HB.out)) hb);clear HO235;clear HO238;clear HO244;clear BK231;clear HB;have HO235:=n0_;have HO238:=n1_;have HO244:=n2_;have HO248:=n3_;have HO251:=n4_;have BK231:=n5_;have HB:=n6_;clear n0_ n1_ n2_ n3_ n4_ n5_ n6_;(try clear hb);(try clear hb2);(try clear hk);(try clear hi);(try clear ho0);(try clear ho1))|((with_reducible refine gate_dst (N:=13) rfl ?_);refine box_event ?hg (N:=13) ?hd (cs:=#[.slice none 0 0,.slice none 0 0,.int .i64 0,.int .i64 0,.int .i64 0]) (t:=31) ?hr ?_;(case hd => rfl);(case hg => rfl);(case hr => first|(go_simp;done)|(go_simp;rfl));intro gb255 hg w38 hbox hb;have n0_:=Am (Kd.R_below (by (with_reducible repeat (first|apply Kd.R_alloc|apply Kd.R_drewN|apply Kd.R_drew));exact HO235.out) hb);have n1_:=Am (Kd.R_below (by (with_reducible repeat (first|apply Kd.R_alloc|apply Kd.R_drewN|apply Kd.R_drew));exact HO238.out) hb);have n2_:=Am (Kd.R_below (by (with_reducible repeat (first|apply Kd.R_alloc|apply Kd.R_drewN|apply Kd.R_drew));exact HO244.out) hb);have n3_:=Am (Kd.R_below (by (with_reducible repeat (first|apply Kd.R_alloc|apply Kd.R_drewN|apply Kd.R_drew));exact HO248.out) hb);have n4_:=Am (Kd.R_below (by (with_reducible repeat (first|apply Kd.R_alloc|apply Kd.R_drewN|apply Kd.R_drew));exact HO251.out) hb);have n5_:=Am (blk_below (g:=gb231) (o:=.cells #[.slice A0_0 l0_0.length c0_0,.slice A0_1 l0_1.length c0_1,.int .i64 a0_2,.int .i64 a0_3,.int .i64 a0_4] 25 (0,0)) (by (with_reducible repeat (first|refine kN ?_ _|refine kD ?_|refine kA ?_ _));exact BK231.out) hb);have n6_:=Am (below_step (by repeat (first|(with_reducible first|exact HB.out|apply bA|apply bN|apply bD|refine bS ?_ GE231.out)|exact HB.out)) hb);have n7_:=Am (hbox);have n8_:=Am ((by rw [hg];exact (below_size (by repeat (first|(with_reducible first|exact HB.out|apply bA|apply bN|apply bD|refine bS ?_ GE231.out)|exact HB.out))) : w.heap.size ≤ gb255));have n9_:=Am ((by rw [hg];exact (below_size (by repeat (first|(with_reducible first|exact HB.out|apply bA|apply bN|apply bD|refine bS ?_ GE231.out)|exact HB.out))) : w.heap.size ≤ gb255));have n10_:=Am ((by rw [hg];exact Nat.ne_of_lt (blk_lt (g:=gb231) (o:=.cells #[.slice A0_0 l0_0.length c0_0,.slice A0_1 l0_1.length c0_1,.int .i64 a0_2,.int .i64 a0_3,.int .i64 a0_4] 25 (0,0)) (by (with_reducible repeat (first|refine kN ?_ _|refine kD ?_|refine kA ?_ _));exact BK231.out)) : gb231 ≠ gb255));have n11_:=Am ((by rw [hg];exact Nat.ne_of_gt (blk_lt (g:=gb231) (o:=.cells #[.slice A0_0 l0_0.length c0_0,.slice A0_1 l0_1.length c0_1,.int .i64 a0_2,.int .i64 a0_3,.int .i64 a0_4] 25 (0,0)) (by (with_reducible repeat (first|refine kN ?_ _|refine kD ?_|refine kA ?_ _));exact BK231.out)) : gb255 ≠ gb231));clear HO235;clear HO238;clear HO244;clear HO248;clear HO251;clear BK231;clear HB;have HO235:=n0_;have HO238:=n1_;have HO244:=n2_;have HO248:=n3_;have HO251:=n4_;have BK231:=n5_;have HB:=n6_;have BK255:=n7_;have GW255:=n8_;have GE255:=n9_;have NB231_255:=n10_;have NB255_231:=n11_;clear n0_ n1_ n2_ n3_ n4_ n5_ n6_ n7_ n8_ n9_ n10_ n11_;clear hb hbox hg;obtain ⟨Ao39,co39,eo39⟩:=Kd.R_slice HO248.out;subst eo39;have hnb40:=NB255_231.out;have hnc40:=NB231_255.out;have hcz41_0 : w38.cell? ⟨gb255,0,none⟩ = some (.slice none 0 0):=(kC BK255.out 0).trans rfl;have hcz41_1 : w38.cell? ⟨gb255,1,none⟩ = some (.slice none 0 0):=(kC BK255.out 1).trans rfl;have hcz41_2 : w38.cell? ⟨gb255,2,none⟩ = some (.int .i64 0):=(kC BK255.out 2).trans rfl;have hcz41_3 : w38.cell? ⟨gb255,3,none⟩ = some (.int .i64 0):=(kC BK255.out 3).trans rfl;have hcz41_4 : w38.cell? ⟨gb255,4,none⟩ = some (.int .i64 0):=(kC BK255.out 4).trans rfl;have hfz41_0:=kF BK255.out 0;have hfz41_1:=kF BK255.out 1;have hfz41_2:=kF BK255.out 2;have hfz41_3:=kF BK255.out 3;have hfz41_4:=kF BK255.out 4;obtain ⟨Ao42,co42,eo42⟩:=Kd.R_slice HO251.out;subst eo42)|((with_reducible refine gate_callee (f:=28) rfl ?_);refine goesL_ (some 35) rfl rfl Try.func28 (by kernel_rfl) rfl #[.slice A4 l4.length c4] rfl (by (try simp only [List.map_toArray,List.map_cons,List.map_nil]);first|done|rfl|(simp only [List.length_drop,List.length_take];rfl)) ?_;(with_reducible refine (laws_toIntS.calls k _ _ l4 t256 _ ?side1 ?side2 A17.out).mono ?_);(case side1 => exact Kd.C_below HR4.out (by repeat (first|(with_reducible first|exact HB.out|apply bA|apply bN|apply bD|refine bS ?_ GE231.out|refine bS ?_ GE255.out)|exact HB.out)));(case side2 => exact HC4.out);rintro e w43 ⟨v257,rfl,ho0,hb⟩;refine ⟨_,rfl,?_⟩;have n0_:=Am (Kd.R_below (by (with_reducible repeat (first|apply Kd.R_alloc|apply Kd.R_drewN|apply Kd.R_drew));exact (Kd.R_mono (Kd.R_far (p:=⟨gb255,4,none⟩) (Kd.R_far (p:=⟨gb255,3,none⟩) (Kd.R_far (p:=⟨gb255,2,none⟩) (Kd.R_far (p:=⟨gb255,1,none⟩) (Kd.R_far (p:=⟨gb255,0,none⟩) (Kd.R_types HO235.out BK255.out (by decide)) (fun _ hk => hk.2) (.slice Ao39 t246.length co39)) (fun _ hk => hk.2) (.slice Ao42 t249.length co42)) (fun _ hk => hk.2) (.int .i64 t252)) (fun _ hk => hk.2) (.int .i64 t253)) (fun _ hk => hk.2) (.int .i64 t254)) (fun _ h_ => h_.1))) hb);have n1_:=Am (Kd.R_below (by (with_reducible repeat (first|apply Kd.R_alloc|apply Kd.R_drewN|apply Kd.R_drew));exact (Kd.R_mono (Kd.R_far (p:=⟨gb255,4,none⟩) (Kd.R_far (p:=⟨gb255,3,none⟩) (Kd.R_far (p:=⟨gb255,2,none⟩) (Kd.R_far (p:=⟨gb255,1,none⟩) (Kd.R_far (p:=⟨gb255,0,none⟩) (Kd.R_types HO238.out BK255.out (by decide)) (fun _ hk => hk.2) (.slice Ao39 t246.length co39)) (fun _ hk => hk.2) (.slice Ao42 t249.length co42)) (fun _ hk => hk.2) (.int .i64 t252)) (fun _ hk => hk.2) (.int .i64 t253)) (fun _ hk => hk.2) (.int .i64 t254)) (fun _ h_ => h_.1))) hb);have n2_:=Am (Kd.R_elder' (by (with_reducible repeat (first|apply Kd.R_alloc|apply Kd.R_drewN|apply Kd.R_drew));exact (Kd.R_mono (Kd.R_far (p:=⟨gb255,4,none⟩) (Kd.R_far (p:=⟨gb255,3,none⟩) (Kd.R_far (p:=⟨gb255,2,none⟩) (Kd.R_far (p:=⟨gb255,1,none⟩) (Kd.R_far (p:=⟨gb255,0,none⟩) (Kd.R_types HO244.out BK255.out (by decide)) (fun _ hk => hk.2) (.slice Ao39 t246.length co39)) (fun _ hk => hk.2) (.slice Ao42 t249.length co42)) (fun _ hk => hk.2) (.int .i64 t252)) (fun _ hk => hk.2) (.int .i64 t253)) (fun _ hk => hk.2) (.int .i64 t254)) (fun _ h_ => h_.1))) (Kd.R_base ho0) hb);have n3_:=Am (Kd.R_below (by (with_reducible repeat (first|apply Kd.R_alloc|apply Kd.R_drewN|apply Kd.R_drew));exact (Kd.R_mono (Kd.R_far (p:=⟨gb255,4,none⟩) (Kd.R_far (p:=⟨gb255,3,none⟩) (Kd.R_far (p:=⟨gb255,2,none⟩) (Kd.R_far (p:=⟨gb255,1,none⟩) (Kd.R_far (p:=⟨gb255,0,none⟩) (Kd.R_types HO248.out BK255.out (by decide)) (fun _ hk => hk.2) (.slice Ao39 t246.length co39)) (fun _ hk => hk.2) (.slice Ao42 t249.length co42)) (fun _ hk => hk.2) (.int .i64 t252)) (fun _ hk => hk.2) (.int .i64 t253)) (fun _ hk => hk.2) (.int .i64 t254)) (fun _ h_ => h_.1))) hb);have n4_:=Am (Kd.R_below (by (with_reducible repeat (first|apply Kd.R_alloc|apply Kd.R_drewN|apply Kd.R_drew));exact (Kd.R_mono (Kd.R_far (p:=⟨gb255,4,none⟩) (Kd.R_far (p:=⟨gb255,3,none⟩) (Kd.R_far (p:=⟨gb255,2,none⟩) (Kd.R_far (p:=⟨gb255,1,none⟩) (Kd.R_far (p:=⟨gb255,0,none⟩) (Kd.R_types HO251.out BK255.out (by decide)) (fun _ hk => hk.2) (.slice Ao39 t246.length co39)) (fun _ hk => hk.2) (.slice Ao42 t249.length co42)) (fun _ hk => hk.2) (.int .i64 t252)) (fun _ hk => hk.2) (.int .i64 t253)) (fun _ hk => hk.2) (.int .i64 t254)) (fun _ h_ => h_.1))) hb);have n5_:=Am (Kd.R_lower (Kd.R_new' ho0 (Kd.R_lt (by (with_reducible repeat (first|apply Kd.R_alloc|apply Kd.R_drewN|apply Kd.R_drew));exact (Kd.R_mono (Kd.R_far (p:=⟨gb255,4,none⟩) (Kd.R_far (p:=⟨gb255,3,none⟩) (Kd.R_far (p:=⟨gb255,2,none⟩) (Kd.R_far (p:=⟨gb255,1,none⟩) (Kd.R_far (p:=⟨gb255,0,none⟩) (Kd.R_types HO244.out BK255.out (by decide)) (fun _ hk => hk.2) (.slice Ao39 t246.length co39)) (fun _ hk => hk.2) (.slice Ao42 t249.length co42)) (fun _ hk => hk.2) (.int .i64 t252)) (fun _ hk => hk.2) (.int .i64 t253)) (fun _ hk => hk.2) (.int .i64 t254)) (fun _ h_ => h_.1))))) (below_size (by repeat (first|(with_reducible first|exact HB.out|apply bA|apply bN|apply bD|refine bS ?_ GE231.out|refine bS ?_ GE255.out)|exact HB.out))));have n6_:=Am (blk_below (g:=gb231) (o:=.cells #[.slice A0_0 l0_0.length c0_0,.slice A0_1 l0_1.length c0_1,.int .i64 a0_2,.int .i64 a0_3,.int .i64 a0_4] 25 (0,0)) (by (with_reducible repeat (first|refine kN ?_ _|refine kD ?_|refine kA ?_ _));refine blk_far ?_ NB231_255.out _;(with_reducible repeat (first|refine kN ?_ _|refine kD ?_|refine kA ?_ _));refine blk_far ?_ NB231_255.out _;(with_reducible repeat (first|refine kN ?_ _|refine kD ?_|refine kA ?_ _));refine blk_far ?_ NB231_255.out _;(with_reducible repeat (first|refine kN ?_ _|refine kD ?_|refine kA ?_ _));refine blk_far ?_ NB231_255.out _;(with_reducible repeat (first|refine kN ?_ _|refine kD ?_|refine kA ?_ _));refine blk_far ?_ NB231_255.out _;(with_reducible repeat (first|refine kN ?_ _|refine kD ?_|refine kA ?_ _));exact BK231.out) hb);have n7_:=Am (blk_below (g:=gb255) (o:=.cells #[.slice Ao39 t246.length co39,.slice Ao42 t249.length co42,.int .i64 t252,.int .i64 t253,.int .i64 t254] 31 (0,0)) (by (with_reducible repeat (first|refine kN ?_ _|refine kD ?_|refine kA ?_ _));refine blk_put (cs:=#[.slice Ao39 t246.length co39,.slice Ao42 t249.length co42,.int .i64 t252,.int .i64 t253,.int .i64 0]) ?_ 4 _ rfl;(with_reducible repeat (first|refine kN ?_ _|refine kD ?_|refine kA ?_ _));refine blk_put (cs:=#[.slice Ao39 t246.length co39,.slice Ao42 t249.length co42,.int .i64 t252,.int .i64 0,.int .i64 0]) ?_ 3 _ rfl;(with_reducible repeat (first|refine kN ?_ _|refine kD ?_|refine kA ?_ _));refine blk_put (cs:=#[.slice Ao39 t246.length co39,.slice Ao42 t249.length co42,.int .i64 0,.int .i64 0,.int .i64 0]) ?_ 2 _ rfl;(with_reducible repeat (first|refine kN ?_ _|refine kD ?_|refine kA ?_ _));refine blk_put (cs:=#[.slice Ao39 t246.length co39,.slice none 0 0,.int .i64 0,.int .i64 0,.int .i64 0]) ?_ 1 _ rfl;(with_reducible repeat (first|refine kN ?_ _|refine kD ?_|refine kA ?_ _));refine blk_put (cs:=#[.slice none 0 0,.slice none 0 0,.int .i64 0,.int .i64 0,.int .i64 0]) ?_ 0 _ rfl;(with_reducible repeat (first|refine kN ?_ _|refine kD ?_|refine kA ?_ _));exact BK255.out) hb);have n8_:=Am (below_step (by repeat (first|(with_reducible first|exact HB.out|apply bA|apply bN|apply bD|refine bS ?_ GE231.out|refine bS ?_ GE255.out)|exact HB.out)) hb);clear HO235;clear HO238;clear HO244;clear HO248;clear HO251;clear BK231;clear BK255;clear HB;have HO235:=n0_;have HO238:=n1_;have HO244:=n2_;have HO248:=n3_;have HO251:=n4_;have HO258:=n5_;have BK231:=n6_;have BK255:=n7_;have HB:=n8_;clear n0_ n1_ n2_ n3_ n4_ n5_ n6_ n7_ n8_;(try clear hb);(try clear hb2);(try clear hk);(try clear hi);(try clear ho0);have hcz44_0 : w43.cell? ⟨gb255,0,none⟩ = some (.slice Ao39 t246.length co39):=(kC BK255.out 0).trans rfl;have hcz44_1 : w43.cell? ⟨gb255,1,none⟩ = some (.slice Ao42 t249.length co42):=(kC BK255.out 1).trans rfl;have hcz44_2 : w43.cell? ⟨gb255,2,none⟩ = some (.int .i64 t252):=(kC BK255.out 2).trans rfl;have hcz44_3 : w43.cell? ⟨gb255,3,none⟩ = some (.int .i64 t253):=(kC BK255.out 3).trans rfl;have hcz44_4 : w43.cell? ⟨gb255,4,none⟩ = some (.int .i64 t254):=(kC BK255.out 4).trans rfl;have hfz44_0:=kF BK255.out 0;have hfz44_1:=kF BK255.out 1;have hfz44_2:=kF BK255.out 2;have hfz44_3:=kF BK255.out 3;have hfz44_4:=kF BK255.out 4;obtain ⟨Ao45,co45,eo45⟩:=Kd.R_slice HO258.out;subst eo45)|((with_reducible refine gate_callee (f:=29) rfl ?_);refine goesL_ (some 41) rfl rfl Try.func29 (by kernel_rfl) rfl #[.agg #[.slice Ao39 t246.length co39,.slice Ao42 t249.length co42,.int .i64 t252,.int .i64 t253,.int .i64 t254],.int .i64 a1,.int .i64 a2,.int .i64 a3,.slice Ao45 t256.length co45] rfl (by (try simp only [List.map_toArray,List.map_cons,List.map_nil]);first|done|rfl|(simp only [List.length_drop,List.length_take];rfl)) ?_;(with_reducible refine (impl_RunOk.calls k _ _ t246 _ _ t249 t252 t253 t254 a1 a2 a3 _ _ t256 t259 _ ?side1 ?side2 ?side3 ?side4 ?side5 ?side6 A18.out).mono ?_);(case side1 => repeat (first|exact (Kd.R_reads' HO248.out).2.2|(with_reducible refine Kd.C_alloc ?_ _)|(with_reducible refine Kd.C_drewN ?_ _)|(with_reducible refine Kd.C_drew ?_)));(case side2 => exact (Kd.R_reads' HO248.out).2.1);(case side3 => repeat (first|exact (Kd.R_reads' HO251.out).2.2|(with_reducible refine Kd.C_alloc ?_ _)|(with_reducible refine Kd.C_drewN ?_ _)|(with_reducible refine Kd.C_drew ?_)));(case side4 => exact (Kd.R_reads' HO251.out).2.1);(case side5 => repeat (first|exact (Kd.R_reads' HO258.out).2.2|(with_reducible refine Kd.C_alloc ?_ _)|(with_reducible refine Kd.C_drewN ?_ _)|(with_reducible refine Kd.C_drew ?_)));(case side6 => exact (Kd.R_reads' HO258.out).2.1);rintro e w46 ⟨rfl,hb⟩;refine ⟨_,rfl,?_⟩;have n0_:=Am (Kd.R_below (by (with_reducible repeat (first|apply Kd.R_alloc|apply Kd.R_drewN|apply Kd.R_drew));exact HO235.out) hb);have n1_:=Am (Kd.R_below (by (with_reducible repeat (first|apply Kd.R_alloc|apply Kd.R_drewN|apply Kd.R_drew));exact HO238.out) hb);have n2_:=Am (Kd.R_below (by (with_reducible repeat (first|apply Kd.R_alloc|apply Kd.R_drewN|apply Kd.R_drew));exact HO244.out) hb);have n3_:=Am (Kd.R_below (by (with_reducible repeat (first|apply Kd.R_alloc|apply Kd.R_drewN|apply Kd.R_drew));exact HO248.out) hb);have n4_:=Am (Kd.R_below (by (with_reducible repeat (first|apply Kd.R_alloc|apply Kd.R_drewN|apply Kd.R_drew));exact HO251.out) hb);have n5_:=Am (Kd.R_below (by (with_reducible repeat (first|apply Kd.R_alloc|apply Kd.R_drewN|apply Kd.R_drew));exact HO258.out) hb);have n6_:=Am (blk_below (g:=gb231) (o:=.cells #[.slice A0_0 l0_0.length c0_0,.slice A0_1 l0_1.length c0_1,.int .i64 a0_2,.int .i64 a0_3,.int .i64 a0_4] 25 (0,0)) (by (with_reducible repeat (first|refine kN ?_ _|refine kD ?_|refine kA ?_ _));exact BK231.out) hb);have n7_:=Am (blk_below (g:=gb255) (o:=.cells #[.slice Ao39 t246.length co39,.slice Ao42 t249.length co42,.int .i64 t252,.int .i64 t253,.int .i64 t254] 31 (0,0)) (by (with_reducible repeat (first|refine kN ?_ _|refine kD ?_|refine kA ?_ _));exact BK255.out) hb);have n8_:=Am (below_step (by repeat (first|(with_reducible first|exact HB.out|apply bA|apply bN|apply bD|refine bS ?_ GE231.out|refine bS ?_ GE255.out)|exact HB.out)) hb);clear HO235;clear HO238;clear HO244;clear HO248;clear HO251;clear HO258;clear BK231;clear BK255;clear HB;have HO235:=n0_;have HO238:=n1_;have HO244:=n2_;have HO248:=n3_;have HO251:=n4_;have HO258:=n5_;have BK231:=n6_;have BK255:=n7_;have HB:=n8_;clear n0_ n1_ n2_ n3_ n4_ n5_ n6_ n7_ n8_;(try clear hb);(try clear hb2);(try clear hk);(try clear hi)))
      have n0_:=Am (Kd.R_drew HO235.out)
      have n1_:=Am (Kd.R_drew HO238.out)
      have n2_:=Am (Kd.R_drew HO244.out)
      have n3_:=Am (Kd.R_drew HO248.out)
      have n4_:=Am (Kd.R_drew HO251.out)
      have n5_:=Am (Kd.R_drew HO258.out)
      have n6_:=Am (kD BK231.out)
      have n7_:=Am (kD BK255.out)
      have n8_:=Am (bD HB.out)
      clear HO235
      clear HO238
      clear HO244
      clear HO248
      clear HO251
      clear HO258
      clear BK231
      clear BK255
      clear HB
      have HO235:=n0_
      have HO238:=n1_
      have HO244:=n2_
      have HO248:=n3_
      have HO251:=n4_
      have HO258:=n5_
      have BK231:=n6_
      have BK255:=n7_
      have HB:=n8_
      clear n0_ n1_ n2_ n3_ n4_ n5_ n6_ n7_ n8_
      refine start_ (n:=5) (S:=fun w' => w'.cell? ⟨gb255,0,none⟩ = some (.slice Ao39 t246.length co39)∧w'.cell? ⟨gb255,1,none⟩ = some (.slice Ao42 t249.length co42)∧w'.cell? ⟨gb255,2,none⟩ = some (.int .i64 t252)∧w'.cell? ⟨gb255,3,none⟩ = some (.int .i64 t253)∧w'.cell? ⟨gb255,4,none⟩ = some (.int .i64 t254)∧w'.cell? ⟨gb231,0,none⟩ = some (.slice A0_0 l0_0.length c0_0)∧w'.cell? ⟨gb231,1,none⟩ = some (.slice A0_1 l0_1.length c0_1)∧w'.cell? ⟨gb231,2,none⟩ = some (.int .i64 a0_2)∧w'.cell? ⟨gb231,3,none⟩ = some (.int .i64 a0_3)∧w'.cell? ⟨gb231,4,none⟩ = some (.int .i64 a0_4)) (ds:=[]) #[false,false,false,false,false] (by kernel_rfl) rfl rfl ⟨(kC BK255.out 0).trans rfl,(kC BK255.out 1).trans rfl,(kC BK255.out 2).trans rfl,(kC BK255.out 3).trans rfl,(kC BK255.out 4).trans rfl,(kC BK231.out 0).trans rfl,(kC BK231.out 1).trans rfl,(kC BK231.out 2).trans rfl,(kC BK231.out 3).trans rfl,(kC BK231.out 4).trans rfl⟩ (fun hHeld => ?_)
      generalize w46.drew = w47 at HO235 HO238 HO244 HO248 HO251 HO258 BK231 BK255 HB hHeld ⊢
      refine take_ (i:=0) (N:=some 45) (v:=?_) (a':=?_) #[true,false,false,false,false] rfl rfl (by kernel_rfl) (fun _ _ _ h => h) (Or.inl ⟨by rfl,?_⟩) hHeld ?_ ?_
      rotate_left
      ·rintro w' ⟨s0,s1,s2,s3,s4,s5,s6,s7,s8,s9⟩
       go_simp
       with_reducible rfl
      rotate_left
      ·simp only [Act.put,pS]
       rfl
      refine take_ (i:=1) (N:=some 46) (v:=?_) (a':=?_) #[true,true,false,false,false] rfl rfl (by kernel_rfl) (fun _ _ _ h => h) (Or.inl ⟨by rfl,?_⟩) hHeld ?_ ?_
      rotate_left
      ·rintro w' ⟨s0,s1,s2,s3,s4,s5,s6,s7,s8,s9⟩
       go_simp
       with_reducible rfl
      rotate_left
      ·simp only [Act.put,pS]
       rfl
      refine one_ (i:=2) (N:=some 47) #[true,true,true,false,false] rfl rfl (by kernel_rfl) (by decide) (fun K hK => ?_)
      refine goes_ Try.func16 (by kernel_rfl) rfl #[.agg #[.slice A0_0 l0_0.length c0_0,.slice A0_1 l0_1.length c0_1,.int .i64 a0_2,.int .i64 a0_3,.int .i64 a0_4]] (by rfl) rfl rfl (by (try simp only [List.map_toArray,List.map_cons,List.map_nil]);first|done|rfl|(simp only [List.length_drop,List.length_take];rfl)) ?_
      with_reducible refine (laws_toProfile.calls k _ _ l0_0 _ _ l0_1 a0_2 a0_3 a0_4 t260 t263 t266 t267 t268 _ ?side1 ?side2 ?side3 ?side4 A20.out).mono ?_
      (case side1 => repeat (first|exact (Kd.C_below HR0_0.out HB.out)|(with_reducible refine Kd.C_alloc ?_ _)|(with_reducible refine Kd.C_drewN ?_ _)|(with_reducible refine Kd.C_drew ?_)))
      (case side2 => exact HC0_0.out)
      (case side3 => repeat (first|exact (Kd.C_below HR0_1.out HB.out)|(with_reducible refine Kd.C_alloc ?_ _)|(with_reducible refine Kd.C_drewN ?_ _)|(with_reducible refine Kd.C_drew ?_)))
      (case side4 => exact HC0_1.out)
      rintro e w48 ⟨v261,v264,rfl,ho0,ho1,hb⟩
      refine ⟨_,rfl,?_⟩
      have n0_:=Am (Kd.R_elder' (by (with_reducible repeat (first|apply Kd.R_alloc|apply Kd.R_drewN|apply Kd.R_drew));exact HO235.out) (Kd.R_base ho0) hb)
      have n1_:=Am (Kd.R_elder' (by (with_reducible repeat (first|apply Kd.R_alloc|apply Kd.R_drewN|apply Kd.R_drew));exact HO238.out) (Kd.R_base ho1) hb)
      have n2_:=Am (Kd.R_below (by (with_reducible repeat (first|apply Kd.R_alloc|apply Kd.R_drewN|apply Kd.R_drew));exact HO244.out) hb)
      have n3_:=Am (Kd.R_elder' (by (with_reducible repeat (first|apply Kd.R_alloc|apply Kd.R_drewN|apply Kd.R_drew));exact HO248.out) (Kd.R_base ho0) hb)
      have n4_:=Am (Kd.R_elder' (by (with_reducible repeat (first|apply Kd.R_alloc|apply Kd.R_drewN|apply Kd.R_drew));exact HO251.out) (Kd.R_base ho1) hb)
      have n5_:=Am (Kd.R_below (by (with_reducible repeat (first|apply Kd.R_alloc|apply Kd.R_drewN|apply Kd.R_drew));exact HO258.out) hb)
      have n6_:=Am (Kd.R_lower (Kd.R_new' (Kd.R_new' ho0 (Kd.R_lt (by (with_reducible repeat (first|apply Kd.R_alloc|apply Kd.R_drewN|apply Kd.R_drew));exact HO235.out))) (Kd.R_lt (by (with_reducible repeat (first|apply Kd.R_alloc|apply Kd.R_drewN|apply Kd.R_drew));exact HO248.out))) (below_size (by repeat (first|(with_reducible first|exact HB.out|apply bA|apply bN|apply bD|refine bS ?_ GE231.out|refine bS ?_ GE255.out)|exact HB.out))))
      have n7_:=Am (Kd.R_lower (Kd.R_new' (Kd.R_new' ho1 (Kd.R_lt (by (with_reducible repeat (first|apply Kd.R_alloc|apply Kd.R_drewN|apply Kd.R_drew));exact HO238.out))) (Kd.R_lt (by (with_reducible repeat (first|apply Kd.R_alloc|apply Kd.R_drewN|apply Kd.R_drew));exact HO251.out))) (below_size (by repeat (first|(with_reducible first|exact HB.out|apply bA|apply bN|apply bD|refine bS ?_ GE231.out|refine bS ?_ GE255.out)|exact HB.out))))
      have n8_:=Am (blk_below (g:=gb231) (o:=.cells #[.slice A0_0 l0_0.length c0_0,.slice A0_1 l0_1.length c0_1,.int .i64 a0_2,.int .i64 a0_3,.int .i64 a0_4] 25 (0,0)) (by (with_reducible repeat (first|refine kN ?_ _|refine kD ?_|refine kA ?_ _));exact BK231.out) hb)
      have n9_:=Am (blk_below (g:=gb255) (o:=.cells #[.slice Ao39 t246.length co39,.slice Ao42 t249.length co42,.int .i64 t252,.int .i64 t253,.int .i64 t254] 31 (0,0)) (by (with_reducible repeat (first|refine kN ?_ _|refine kD ?_|refine kA ?_ _));exact BK255.out) hb)
      have n10_:=Am (below_step (by repeat (first|(with_reducible first|exact HB.out|apply bA|apply bN|apply bD|refine bS ?_ GE231.out|refine bS ?_ GE255.out)|exact HB.out)) hb)
      clear HO235
      clear HO238
      clear HO244
      clear HO248
      clear HO251
      clear HO258
      clear BK231
      clear BK255
      clear HB
      have HO235:=n0_
      have HO238:=n1_
      have HO244:=n2_
      have HO248:=n3_
      have HO251:=n4_
      have HO258:=n5_
      have HO262:=n6_
      have HO265:=n7_
      have BK231:=n8_
      have BK255:=n9_
      have HB:=n10_
      clear n0_ n1_ n2_ n3_ n4_ n5_ n6_ n7_ n8_ n9_ n10_
      (try clear hb)
      (try clear hb2)
      (try clear hk)
      (try clear hi)
      (try clear ho0)
      (try clear ho1)
      obtain ⟨Ao49,co49,eo49⟩:=Kd.R_slice HO262.out
      (first|subst eo49|(injection eo49 with f1_ f2_ f3_;have f4_:=f1_.symm;have f5_:=f3_.symm;clear f1_ f2_ f3_;subst f4_;subst f5_))
      obtain ⟨Ao50,co50,eo50⟩:=Kd.R_slice HO265.out
      (first|subst eo50|(injection eo50 with f1_ f2_ f3_;have f4_:=f1_.symm;have f5_:=f3_.symm;clear f1_ f2_ f3_;subst f4_;subst f5_))
      refine hK.out _ _ ⟨(kC BK255.out 0).trans rfl,(kC BK255.out 1).trans rfl,(kC BK255.out 2).trans rfl,(kC BK255.out 3).trans rfl,(kC BK255.out 4).trans rfl,(kC BK231.out 0).trans rfl,(kC BK231.out 1).trans rfl,(kC BK231.out 2).trans rfl,(kC BK231.out 3).trans rfl,(kC BK231.out 4).trans rfl⟩ (fun hHeld => ?_)
      clear hK K
      refine norm_ (a':=?_) ?_ ?_
      rotate_left
      ·show Act.put _ (some 47) _ = _
       simp only [Act.put,pS]
       rfl
      refine one_ (i:=3) (N:=some 48) #[true,true,true,true,false] rfl rfl (by kernel_rfl) (by decide) (fun K hK => ?_)
      refine goes_ Try.func18 (by kernel_rfl) rfl #[.agg #[.slice Ao39 t246.length co39,.slice Ao42 t249.length co42,.int .i64 t252,.int .i64 t253,.int .i64 t254],.agg #[.slice Ao49 t260.length co49,.slice Ao50 t263.length co50,.int .i64 t266,.int .i64 t267,.int .i64 t268]] (by rfl) rfl rfl (by (try simp only [List.map_toArray,List.map_cons,List.map_nil]);first|done|rfl|(simp only [List.length_drop,List.length_take];rfl)) ?_
      with_reducible refine (laws_eqProfile.calls k _ _ t246 _ _ t249 t252 t253 t254 _ _ t260 _ _ t263 t266 t267 t268 true _ ?side1 ?side2 ?side3 ?side4 ?side5 ?side6 ?side7 ?side8 A21.out).mono ?_
      (case side1 => repeat (first|exact (Kd.R_reads' HO248.out).2.2|(with_reducible refine Kd.C_alloc ?_ _)|(with_reducible refine Kd.C_drewN ?_ _)|(with_reducible refine Kd.C_drew ?_)))
      (case side2 => exact (Kd.R_reads' HO248.out).2.1)
      (case side3 => repeat (first|exact (Kd.R_reads' HO251.out).2.2|(with_reducible refine Kd.C_alloc ?_ _)|(with_reducible refine Kd.C_drewN ?_ _)|(with_reducible refine Kd.C_drew ?_)))
      (case side4 => exact (Kd.R_reads' HO251.out).2.1)
      (case side5 => repeat (first|exact (Kd.R_reads' HO262.out).2.2|(with_reducible refine Kd.C_alloc ?_ _)|(with_reducible refine Kd.C_drewN ?_ _)|(with_reducible refine Kd.C_drew ?_)))
      (case side6 => exact (Kd.R_reads' HO262.out).2.1)
      (case side7 => repeat (first|exact (Kd.R_reads' HO265.out).2.2|(with_reducible refine Kd.C_alloc ?_ _)|(with_reducible refine Kd.C_drewN ?_ _)|(with_reducible refine Kd.C_drew ?_)))
      (case side8 => exact (Kd.R_reads' HO265.out).2.1)
      rintro e w51 ⟨rfl,hb⟩
      refine ⟨_,rfl,?_⟩
      have n0_:=Am (Kd.R_below (by (with_reducible repeat (first|apply Kd.R_alloc|apply Kd.R_drewN|apply Kd.R_drew));exact HO235.out) hb)
      have n1_:=Am (Kd.R_below (by (with_reducible repeat (first|apply Kd.R_alloc|apply Kd.R_drewN|apply Kd.R_drew));exact HO238.out) hb)
      have n2_:=Am (Kd.R_below (by (with_reducible repeat (first|apply Kd.R_alloc|apply Kd.R_drewN|apply Kd.R_drew));exact HO244.out) hb)
      have n3_:=Am (Kd.R_below (by (with_reducible repeat (first|apply Kd.R_alloc|apply Kd.R_drewN|apply Kd.R_drew));exact HO248.out) hb)
      have n4_:=Am (Kd.R_below (by (with_reducible repeat (first|apply Kd.R_alloc|apply Kd.R_drewN|apply Kd.R_drew));exact HO251.out) hb)
      have n5_:=Am (Kd.R_below (by (with_reducible repeat (first|apply Kd.R_alloc|apply Kd.R_drewN|apply Kd.R_drew));exact HO258.out) hb)
      have n6_:=Am (Kd.R_below (by (with_reducible repeat (first|apply Kd.R_alloc|apply Kd.R_drewN|apply Kd.R_drew));exact HO262.out) hb)
      have n7_:=Am (Kd.R_below (by (with_reducible repeat (first|apply Kd.R_alloc|apply Kd.R_drewN|apply Kd.R_drew));exact HO265.out) hb)
      have n8_:=Am (blk_below (g:=gb231) (o:=.cells #[.slice A0_0 l0_0.length c0_0,.slice A0_1 l0_1.length c0_1,.int .i64 a0_2,.int .i64 a0_3,.int .i64 a0_4] 25 (0,0)) (by (with_reducible repeat (first|refine kN ?_ _|refine kD ?_|refine kA ?_ _));exact BK231.out) hb)
      have n9_:=Am (blk_below (g:=gb255) (o:=.cells #[.slice Ao39 t246.length co39,.slice Ao42 t249.length co42,.int .i64 t252,.int .i64 t253,.int .i64 t254] 31 (0,0)) (by (with_reducible repeat (first|refine kN ?_ _|refine kD ?_|refine kA ?_ _));exact BK255.out) hb)
      have n10_:=Am (below_step (by repeat (first|(with_reducible first|exact HB.out|apply bA|apply bN|apply bD|refine bS ?_ GE231.out|refine bS ?_ GE255.out)|exact HB.out)) hb)
      clear HO235
      clear HO238
      clear HO244
      clear HO248
      clear HO251
      clear HO258
      clear HO262
      clear HO265
      clear BK231
      clear BK255
      clear HB
      have HO235:=n0_
      have HO238:=n1_
      have HO244:=n2_
      have HO248:=n3_
      have HO251:=n4_
      have HO258:=n5_
      have HO262:=n6_
      have HO265:=n7_
      have BK231:=n8_
      have BK255:=n9_
      have HB:=n10_
      clear n0_ n1_ n2_ n3_ n4_ n5_ n6_ n7_ n8_ n9_ n10_
      (try clear hb)
      (try clear hb2)
      (try clear hk)
      (try clear hi)
      refine hK.out _ _ ⟨(kC BK255.out 0).trans rfl,(kC BK255.out 1).trans rfl,(kC BK255.out 2).trans rfl,(kC BK255.out 3).trans rfl,(kC BK255.out 4).trans rfl,(kC BK231.out 0).trans rfl,(kC BK231.out 1).trans rfl,(kC BK231.out 2).trans rfl,(kC BK231.out 3).trans rfl,(kC BK231.out 4).trans rfl⟩ (fun hHeld => ?_)
      clear hK K
      refine norm_ (a':=?_) ?_ ?_
      rotate_left
      ·show Act.put _ (some 48) _ = _
       simp only [Act.put,pS]
       rfl
      refine pure_ (i:=4) (N:=some 49) (v:=?_) (a':=?_) #[true,true,true,true,true] rfl rfl (by kernel_rfl) (fun _ _ _ h => h) (Or.inl ⟨by rfl,?_⟩) ?_ ?_
      rotate_left
      ·intro w'
       go_simp
       with_reducible rfl
      rotate_left
      ·simp only [Act.put,pS]
       rfl
      refine done_ (by kernel_rfl) ?_
      try go_wp2_with (first|((with_reducible refine gate_callee (f:=28) rfl ?_);refine goesL_ (some 52) rfl rfl Try.func28 (by kernel_rfl) rfl #[.slice A4 l4.length c4] rfl (by (try simp only [List.map_toArray,List.map_cons,List.map_nil]);first|done|rfl|(simp only [List.length_drop,List.length_take];rfl)) ?_;(with_reducible refine (laws_toIntS.calls k _ _ l4 t270 _ ?side1 ?side2 A23.out).mono ?_);(case side1 => repeat (first|exact (Kd.C_below HR4.out HB.out)|(with_reducible refine Kd.C_alloc ?_ _)|(with_reducible refine Kd.C_drewN ?_ _)|(with_reducible refine Kd.C_drew ?_)));(case side2 => exact HC4.out);rintro e w52 ⟨v271,rfl,ho0,hb⟩;refine ⟨_,rfl,?_⟩;have n0_:=Am (Kd.R_below (by (with_reducible repeat (first|apply Kd.R_alloc|apply Kd.R_drewN|apply Kd.R_drew));exact HO235.out) hb);have n1_:=Am (Kd.R_below (by (with_reducible repeat (first|apply Kd.R_alloc|apply Kd.R_drewN|apply Kd.R_drew));exact HO238.out) hb);have n2_:=Am (Kd.R_elder' (by (with_reducible repeat (first|apply Kd.R_alloc|apply Kd.R_drewN|apply Kd.R_drew));exact HO244.out) (Kd.R_base ho0) hb);have n3_:=Am (Kd.R_below (by (with_reducible repeat (first|apply Kd.R_alloc|apply Kd.R_drewN|apply Kd.R_drew));exact HO248.out) hb);have n4_:=Am (Kd.R_below (by (with_reducible repeat (first|apply Kd.R_alloc|apply Kd.R_drewN|apply Kd.R_drew));exact HO251.out) hb);have n5_:=Am (Kd.R_elder' (by (with_reducible repeat (first|apply Kd.R_alloc|apply Kd.R_drewN|apply Kd.R_drew));exact HO258.out) (Kd.R_base ho0) hb);have n6_:=Am (Kd.R_below (by (with_reducible repeat (first|apply Kd.R_alloc|apply Kd.R_drewN|apply Kd.R_drew));exact HO262.out) hb);have n7_:=Am (Kd.R_below (by (with_reducible repeat (first|apply Kd.R_alloc|apply Kd.R_drewN|apply Kd.R_drew));exact HO265.out) hb);have n8_:=Am (Kd.R_lower (Kd.R_new' (Kd.R_new' ho0 (Kd.R_lt (by (with_reducible repeat (first|apply Kd.R_alloc|apply Kd.R_drewN|apply Kd.R_drew));exact HO244.out))) (Kd.R_lt (by (with_reducible repeat (first|apply Kd.R_alloc|apply Kd.R_drewN|apply Kd.R_drew));exact HO258.out))) (below_size (by repeat (first|(with_reducible first|exact HB.out|apply bA|apply bN|apply bD|refine bS ?_ GE231.out|refine bS ?_ GE255.out)|exact HB.out))));have n9_:=Am (blk_below (g:=gb231) (o:=.cells #[.slice A0_0 l0_0.length c0_0,.slice A0_1 l0_1.length c0_1,.int .i64 a0_2,.int .i64 a0_3,.int .i64 a0_4] 25 (0,0)) (by (with_reducible repeat (first|refine kN ?_ _|refine kD ?_|refine kA ?_ _));exact BK231.out) hb);have n10_:=Am (blk_below (g:=gb255) (o:=.cells #[.slice Ao39 t246.length co39,.slice Ao42 t249.length co42,.int .i64 t252,.int .i64 t253,.int .i64 t254] 31 (0,0)) (by (with_reducible repeat (first|refine kN ?_ _|refine kD ?_|refine kA ?_ _));exact BK255.out) hb);have n11_:=Am (below_step (by repeat (first|(with_reducible first|exact HB.out|apply bA|apply bN|apply bD|refine bS ?_ GE231.out|refine bS ?_ GE255.out)|exact HB.out)) hb);clear HO235;clear HO238;clear HO244;clear HO248;clear HO251;clear HO258;clear HO262;clear HO265;clear BK231;clear BK255;clear HB;have HO235:=n0_;have HO238:=n1_;have HO244:=n2_;have HO248:=n3_;have HO251:=n4_;have HO258:=n5_;have HO262:=n6_;have HO265:=n7_;have HO272:=n8_;have BK231:=n9_;have BK255:=n10_;have HB:=n11_;clear n0_ n1_ n2_ n3_ n4_ n5_ n6_ n7_ n8_ n9_ n10_ n11_;(try clear hb);(try clear hb2);(try clear hk);(try clear hi);(try clear ho0);obtain ⟨Ao53,co53,eo53⟩:=Kd.R_slice HO272.out;subst eo53)|((with_reducible refine gate_callee (f:=30) rfl ?_);refine goesL_ (some 53) rfl rfl Try.func30 (by kernel_rfl) rfl #[.slice Ao45 t256.length co45,.slice Ao53 t270.length co53] rfl (by (try simp only [List.map_toArray,List.map_cons,List.map_nil]);first|done|rfl|(simp only [List.length_drop,List.length_take];rfl)) ?_;(with_reducible refine (laws_eqIntS.calls k _ _ t256 _ _ t270 true _ ?side1 ?side2 ?side3 ?side4 A24.out).mono ?_);(case side1 => repeat (first|exact (Kd.R_reads' HO258.out).2.2|(with_reducible refine Kd.C_alloc ?_ _)|(with_reducible refine Kd.C_drewN ?_ _)|(with_reducible refine Kd.C_drew ?_)));(case side2 => exact (Kd.R_reads' HO258.out).2.1);(case side3 => repeat (first|exact (Kd.R_reads' HO272.out).2.2|(with_reducible refine Kd.C_alloc ?_ _)|(with_reducible refine Kd.C_drewN ?_ _)|(with_reducible refine Kd.C_drew ?_)));(case side4 => exact (Kd.R_reads' HO272.out).2.1);rintro e w' ⟨rfl,⟨nd,rfl⟩⟩;refine ⟨_,rfl,?_⟩))
      go_ret
      exact ⟨by first|rfl|(simp [errW_none,errW_some] <;> rfl)|(simp [*,errW_none,errW_some] <;> rfl),by repeat (first|(with_reducible first|exact HB.out|apply bA|apply bN|apply bD|refine bS ?_ GE231.out|refine bS ?_ GE255.out)|exact HB.out)⟩
     ·replace c25:=Bool.eq_false_iff.mpr c25
      subst c25
      have H1 : (some false) = some r:=by rw [if_neg (show ¬ (false = true) by decide)] at H;exact H
      clear H
      have H:=H1
      clear H1
      exact absurd H (by rw [hrt.out];simp)
    ·replace c22:=Bool.eq_false_iff.mpr c22
     subst c22
     have H1 : (some false) = some r:=by rw [if_neg (show ¬ (false = true) by decide)] at H;exact H
     clear H
     have H:=H1
     clear H1
     exact absurd H (by rw [hrt.out];simp)

end Go.Proofs.Ytgakkndbcilclaa.PB
