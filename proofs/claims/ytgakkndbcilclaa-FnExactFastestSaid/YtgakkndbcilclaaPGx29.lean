-- Written by a program of this session (wip/print/myprint.py) over the kit's print, with contracts of its own; not a text of print.sh's.
import Derived.Test.YtgakkndbcilclaaPGx0
import Derived.Test.YtgakkndbcilclaaPGx2
import Derived.Test.YtgakkndbcilclaaPGx4
import Derived.Test.YtgakkndbcilclaaPGx9
import Derived.Test.YtgakkndbcilclaaPGx11
import Derived.Test.YtgakkndbcilclaaPGx20
import Derived.Test.YtgakkndbcilclaaPGx25
import Derived.Test.YtgakkndbcilclaaPGx27
import Derived.Test.YtgakkndbcilclaaPGx28
import Derived.Test.YtgakkndbcilclaaMyWords
namespace Go.Proofs.Ytgakkndbcilclaa.PG
open Go.RowKit Go.Proofs.YtgakkndbcilclaaW.PrintWords Go.Proofs.YtgakkndbcilclaaW.PrintLast Go.Proofs.YtgakkndbcilclaaW.PrintMore
attribute [local go_sem] max2_int min2_int max_two min_two   -- for this text's walks alone
set_option linter.unusedVariables false
set_option linter.unusedSimpArgs false

/-! ### laws_FnExactFastest: function 13 -/
def laws_FnExactFastest.j0 : Nat → Int → Int → Int → Bool → List (S107) → List (S109) → Int → Int → Int → Bool → Int → List Int → Bool → Int → List Int → Option (Bool)
 | 0,_,_,_,_,_,_,_,_,_,_,_,_,_,_,_ => none
 | k + 1,x1,x2,x3,x54,x219000,x219001,x219002,x219003,x219004,x235000,x235001,x235002,x251000,x251001,x251002 => if x54 = true then (some false) else ((laws_markRun.f k x251000 x251001 x251002 1).bind fun bt266 => ((laws_heldRun.f k x251000 x251001 bt266.2 1).bind fun t268 => (if t268 < 0 then (some false) else (if t268 = bt266.1 then ((laws_toProfile.f k x219000 x219001 x219002 x219003 x219004).bind fun bt269 => ((impl_Fastest.f k bt269.1 bt269.2.1 bt269.2.2.1 bt269.2.2.2.1 bt269.2.2.2.2 x1 x2 x3).bind fun bt278 => ((laws_eqRun.f k bt278.1 bt278.2.1 bt278.2.2 x235000 x235001 x235002).bind fun t284 => (if t284 = true then ((laws_heldRun.f k x251000 x251001 bt266.2 1).bind fun t285 => (if t285 < 0 then (some false) else (if t285 = bt266.1 then (some true) else (some false)))) else (some false))))) else (some false)))))
def laws_FnExactFastest.f (k : Nat) (l0_0 : List (S107)) (l0_1 : List (S109)) (a0_2 : Int) (a0_3 : Int) (a0_4 : Int) (a1 : Int) (a2 : Int) (a3 : Int) : Option (Bool):=(laws_szProfile.f l0_0 l0_1 a0_2 a0_3 a0_4 1048576).bind fun t219 => (if t219 < 0 then (some true) else ((laws_toProfile.f k l0_0 l0_1 a0_2 a0_3 a0_4).bind fun bt220 => ((spec_Fastest.f k bt220.1 bt220.2.1 bt220.2.2.1 bt220.2.2.2.1 bt220.2.2.2.2 a1 a2 a3).bind fun bt229 => ((laws_toProfile.f k l0_0 l0_1 a0_2 a0_3 a0_4).bind fun bt235 => ((impl_Fastest.f k bt235.1 bt235.2.1 bt235.2.2.1 bt235.2.2.2.1 bt235.2.2.2.2 a1 a2 a3).bind fun bt245 => ((laws_eqRun.f k bt245.1 bt245.2.1 bt245.2.2 bt229.1 bt229.2.1 bt229.2.2).bind fun t251 => (if t251 = true then ((laws_toProfile.f k l0_0 l0_1 a0_2 a0_3 a0_4).bind fun bt252 => ((laws_eqProfile.f k bt235.1 bt235.2.1 bt235.2.2.1 bt235.2.2.2.1 bt235.2.2.2.2 bt252.1 bt252.2.1 bt252.2.2.1 bt252.2.2.2.1 bt252.2.2.2.2).bind fun t261 => (if t261 = true then ((laws_markProfile.f k bt235.1 bt235.2.1 bt235.2.2.1 bt235.2.2.2.1 bt235.2.2.2.2 1).bind fun bt262 => (if bt262.1 < 0 then (laws_FnExactFastest.j0 k a1 a2 a3 true l0_0 l0_1 a0_2 a0_3 a0_4 bt229.1 bt229.2.1 bt229.2.2 bt245.1 bt245.2.1 bt245.2.2) else ((laws_eqRun.f k bt245.1 bt245.2.1 bt245.2.2 bt229.1 bt229.2.1 bt229.2.2).bind fun t265 => (laws_FnExactFastest.j0 k a1 a2 a3 (!t265) l0_0 l0_1 a0_2 a0_3 a0_4 bt229.1 bt229.2.1 bt229.2.2 bt245.1 bt245.2.1 bt245.2.2)))) else (some false)))) else (some false))))))))
theorem laws_FnExactFastest.mono_l : ∀ k,(∀ y0 y1 y2 y3 y4 y5 y6 y7 y8 y9 y10 y11 y12 y13 y14,LeO (laws_FnExactFastest.j0 k y0 y1 y2 y3 y4 y5 y6 y7 y8 y9 y10 y11 y12 y13 y14) (laws_FnExactFastest.j0 (k + 1) y0 y1 y2 y3 y4 y5 y6 y7 y8 y9 y10 y11 y12 y13 y14))
 | 0 => fun _ _ _ _ _ _ _ _ _ _ _ _ _ _ _ r h => by simp [laws_FnExactFastest.j0] at h
 | k + 1 => by
  have ih0:=laws_FnExactFastest.mono_l k
  ·intro y0 y1 y2 y3 y4 y5 y6 y7 y8 y9 y10 y11 y12 y13 y14
   unfold laws_FnExactFastest.j0
   repeat' first
   | (with_reducible exact ih0 _ _ _ _ _ _ _ _ _ _ _ _ _ _ _)
   | (with_reducible exact impl_Fastest.mono _ _ _ _ _ _ _ _ _)
   | (with_reducible exact laws_eqProfile.mono _ _ _ _ _ _ _ _ _ _ _)
   | (with_reducible exact laws_eqRun.mono _ _ _ _ _ _ _)
   | (with_reducible exact laws_heldRun.mono _ _ _ _ _)
   | (with_reducible exact laws_markProfile.mono _ _ _ _ _ _ _)
   | (with_reducible exact laws_markRun.mono _ _ _ _ _)
   | (with_reducible exact laws_toProfile.mono _ _ _ _ _ _)
   | (with_reducible exact spec_Fastest.mono _ _ _ _ _ _ _ _ _)
   | (with_reducible exact LeO.refl _)
   | (with_reducible exact LeO.none _)
   | (with_reducible refine LeO.ite ?_ ?_)
   | (with_reducible refine LeO.bind ?_ (fun _ => ?_))
   | exact ih0 _ _ _ _ _ _ _ _ _ _ _ _ _ _ _
   | exact impl_Fastest.mono _ _ _ _ _ _ _ _ _
   | exact laws_eqProfile.mono _ _ _ _ _ _ _ _ _ _ _
   | exact laws_eqRun.mono _ _ _ _ _ _ _
   | exact laws_heldRun.mono _ _ _ _ _
   | exact laws_markProfile.mono _ _ _ _ _ _ _
   | exact laws_markRun.mono _ _ _ _ _
   | exact laws_toProfile.mono _ _ _ _ _ _
   | exact spec_Fastest.mono _ _ _ _ _ _ _ _ _
   | exact LeO.none _
   | refine LeO.ite ?_ ?_
   | refine LeO.bind ?_ (fun _ => ?_)
theorem laws_FnExactFastest.mono : ∀ a0 a1 a2 a3 a4 a5 a6 a7 k,LeO (laws_FnExactFastest.f k a0 a1 a2 a3 a4 a5 a6 a7) (laws_FnExactFastest.f (k + 1) a0 a1 a2 a3 a4 a5 a6 a7):=by
 intro a0 a1 a2 a3 a4 a5 a6 a7 k
 have ih0:=laws_FnExactFastest.mono_l k
 unfold laws_FnExactFastest.f
 repeat' first
   | (with_reducible exact ih0 _ _ _ _ _ _ _ _ _ _ _ _ _ _ _)
   | (with_reducible exact impl_Fastest.mono _ _ _ _ _ _ _ _ _)
   | (with_reducible exact laws_eqProfile.mono _ _ _ _ _ _ _ _ _ _ _)
   | (with_reducible exact laws_eqRun.mono _ _ _ _ _ _ _)
   | (with_reducible exact laws_heldRun.mono _ _ _ _ _)
   | (with_reducible exact laws_markProfile.mono _ _ _ _ _ _ _)
   | (with_reducible exact laws_markRun.mono _ _ _ _ _)
   | (with_reducible exact laws_toProfile.mono _ _ _ _ _ _)
   | (with_reducible exact spec_Fastest.mono _ _ _ _ _ _ _ _ _)
   | (with_reducible exact LeO.refl _)
   | (with_reducible exact LeO.none _)
   | (with_reducible refine LeO.ite ?_ ?_)
   | (with_reducible refine LeO.bind ?_ (fun _ => ?_))
   | exact ih0 _ _ _ _ _ _ _ _ _ _ _ _ _ _ _
   | exact impl_Fastest.mono _ _ _ _ _ _ _ _ _
   | exact laws_eqProfile.mono _ _ _ _ _ _ _ _ _ _ _
   | exact laws_eqRun.mono _ _ _ _ _ _ _
   | exact laws_heldRun.mono _ _ _ _ _
   | exact laws_markProfile.mono _ _ _ _ _ _ _
   | exact laws_markRun.mono _ _ _ _ _
   | exact laws_toProfile.mono _ _ _ _ _ _
   | exact spec_Fastest.mono _ _ _ _ _ _ _ _ _
   | exact LeO.none _
   | refine LeO.ite ?_ ?_
   | refine LeO.bind ?_ (fun _ => ?_)
theorem laws_FnExactFastest.j0_no : ∀ (k : Nat) (x1 : Int) (x2 : Int) (x3 : Int) (x219000 : List (S107)) (x219001 : List (S109)) (x219002 : Int) (x219003 : Int) (x219004 : Int) (x235000 : Bool) (x235001 : Int) (x235002 : List Int) (x251000 : Bool) (x251001 : Int) (x251002 : List Int),¬ laws_FnExactFastest.j0 k x1 x2 x3 true x219000 x219001 x219002 x219003 x219004 x235000 x235001 x235002 x251000 x251001 x251002 = some true:=by
 intro k
 cases k <;> simp [laws_FnExactFastest.j0]
set_option maxHeartbeats 8000000 in
set_option maxRecDepth 100000 in
theorem laws_FnExactFastest.calls (k : Nat) (A0_0 : Option Addr) (c0_0 : Nat) (l0_0 : List (S107)) (A0_1 : Option Addr) (c0_1 : Nat) (l0_1 : List (S109)) (a0_2 : Int) (a0_3 : Int) (a0_4 : Int) (a1 : Int) (a2 : Int) (a3 : Int) (r : Bool) (w : World) (hr0_0 : Kd.C k107 w A0_0 l0_0.length l0_0) (hc0_0 : l0_0.length ≤ c0_0) (hr0_1 : Kd.C k109 w A0_1 l0_1.length l0_1) (hc0_1 : l0_1.length ≤ c0_1) (hrt : As (r = true)) (h : laws_FnExactFastest.f k l0_0 l0_1 a0_2 a0_3 a0_4 a1 a2 a3 = some r) :
  Calls Try.prog 13 #[.agg #[.slice A0_0 l0_0.length c0_0,.slice A0_1 l0_1.length c0_1,.int .i64 a0_2,.int .i64 a0_3,.int .i64 a0_4],.int .i64 a1,.int .i64 a2,.int .i64 a3] w fun e w' => e = .returned (.bool r)∧Below w.heap.size w w':=by
 have hu25:=Try.underlying25
 have hu63:=Try.underlying63
 have hu31:=Try.underlying31
 have HR0_0:=Am hr0_0
 have HC0_0:=Am hc0_0
 clear hr0_0 hc0_0
 have HR0_1:=Am hr0_1
 have HC0_1:=Am hc0_1
 clear hr0_1 hc0_1
 have HB:=Am (Below.refl w.heap.size w)
 have H : ((laws_szProfile.f l0_0 l0_1 a0_2 a0_3 a0_4 1048576).bind fun t219 => (if t219 < 0 then (some true) else ((laws_toProfile.f k l0_0 l0_1 a0_2 a0_3 a0_4).bind fun bt220 => ((spec_Fastest.f k bt220.1 bt220.2.1 bt220.2.2.1 bt220.2.2.2.1 bt220.2.2.2.2 a1 a2 a3).bind fun bt229 => ((laws_toProfile.f k l0_0 l0_1 a0_2 a0_3 a0_4).bind fun bt235 => ((impl_Fastest.f k bt235.1 bt235.2.1 bt235.2.2.1 bt235.2.2.2.1 bt235.2.2.2.2 a1 a2 a3).bind fun bt245 => ((laws_eqRun.f k bt245.1 bt245.2.1 bt245.2.2 bt229.1 bt229.2.1 bt229.2.2).bind fun t251 => (if t251 = true then ((laws_toProfile.f k l0_0 l0_1 a0_2 a0_3 a0_4).bind fun bt252 => ((laws_eqProfile.f k bt235.1 bt235.2.1 bt235.2.2.1 bt235.2.2.2.1 bt235.2.2.2.2 bt252.1 bt252.2.1 bt252.2.2.1 bt252.2.2.2.1 bt252.2.2.2.2).bind fun t261 => (if t261 = true then ((laws_markProfile.f k bt235.1 bt235.2.1 bt235.2.2.1 bt235.2.2.2.1 bt235.2.2.2.2 1).bind fun bt262 => (if bt262.1 < 0 then (laws_FnExactFastest.j0 k a1 a2 a3 true l0_0 l0_1 a0_2 a0_3 a0_4 bt229.1 bt229.2.1 bt229.2.2 bt245.1 bt245.2.1 bt245.2.2) else ((laws_eqRun.f k bt245.1 bt245.2.1 bt245.2.2 bt229.1 bt229.2.1 bt229.2.2).bind fun t265 => (laws_FnExactFastest.j0 k a1 a2 a3 (!t265) l0_0 l0_1 a0_2 a0_3 a0_4 bt229.1 bt229.2.1 bt229.2.2 bt245.1 bt245.2.1 bt245.2.2)))) else (some false)))) else (some false))))))))) = some r:=h
 clear h
 replace H:=Option.bind_eq_some_iff.mp H
 obtain ⟨t219,A50,H⟩:=H
 replace H : (if t219 < 0 then (some true) else ((laws_toProfile.f k l0_0 l0_1 a0_2 a0_3 a0_4).bind fun bt220 => ((spec_Fastest.f k bt220.1 bt220.2.1 bt220.2.2.1 bt220.2.2.2.1 bt220.2.2.2.2 a1 a2 a3).bind fun bt229 => ((laws_toProfile.f k l0_0 l0_1 a0_2 a0_3 a0_4).bind fun bt235 => ((impl_Fastest.f k bt235.1 bt235.2.1 bt235.2.2.1 bt235.2.2.2.1 bt235.2.2.2.2 a1 a2 a3).bind fun bt245 => ((laws_eqRun.f k bt245.1 bt245.2.1 bt245.2.2 bt229.1 bt229.2.1 bt229.2.2).bind fun t251 => (if t251 = true then ((laws_toProfile.f k l0_0 l0_1 a0_2 a0_3 a0_4).bind fun bt252 => ((laws_eqProfile.f k bt235.1 bt235.2.1 bt235.2.2.1 bt235.2.2.2.1 bt235.2.2.2.2 bt252.1 bt252.2.1 bt252.2.2.1 bt252.2.2.2.1 bt252.2.2.2.2).bind fun t261 => (if t261 = true then ((laws_markProfile.f k bt235.1 bt235.2.1 bt235.2.2.1 bt235.2.2.2.1 bt235.2.2.2.2 1).bind fun bt262 => (if bt262.1 < 0 then (laws_FnExactFastest.j0 k a1 a2 a3 true l0_0 l0_1 a0_2 a0_3 a0_4 bt229.1 bt229.2.1 bt229.2.2 bt245.1 bt245.2.1 bt245.2.2) else ((laws_eqRun.f k bt245.1 bt245.2.1 bt245.2.2 bt229.1 bt229.2.1 bt229.2.2).bind fun t265 => (laws_FnExactFastest.j0 k a1 a2 a3 (!t265) l0_0 l0_1 a0_2 a0_3 a0_4 bt229.1 bt229.2.1 bt229.2.2 bt245.1 bt245.2.1 bt245.2.2)))) else (some false)))) else (some false)))))))) = some r:=H
 have A5:=Am A50
 clear A50
 by_cases c6 : t219 < 0
 ·rw [if_pos c6] at H
  have c6b0 : decide (t219 < 0) = true:=decide_eq_true c6
  clear c6
  obtain rfl:=Option.some.inj H
  go_enter Try.func13,Try.ntmps13
  go_wp2_with (first|((with_reducible refine gate_dst (N:=4) rfl ?_);refine box_event ?hg (N:=4) ?hd (cs:=#[.slice A0_0 l0_0.length c0_0,.slice A0_1 l0_1.length c0_1,.int .i64 a0_2,.int .i64 a0_3,.int .i64 a0_4]) (t:=25) ?hr ?_;(case hd => rfl);(case hg => rfl);(case hr => first|(go_simp;done)|(go_simp;rfl));intro gb218 hg w7 hbox hb;have n0_:=Am (below_step (by repeat (first|(with_reducible first|exact HB.out|apply bA|apply bN|apply bD)|exact HB.out)) hb);have n1_:=Am (hbox);have n2_:=Am ((by rw [hg];exact (below_size (by repeat (first|(with_reducible first|exact HB.out|apply bA|apply bN|apply bD)|exact HB.out))) : w.heap.size ≤ gb218));have n3_:=Am ((by rw [hg];exact (below_size (by repeat (first|(with_reducible first|exact HB.out|apply bA|apply bN|apply bD)|exact HB.out))) : w.heap.size ≤ gb218));clear HB;have HB:=n0_;have BK218:=n1_;have GW218:=n2_;have GE218:=n3_;clear n0_ n1_ n2_ n3_;clear hb hbox hg;have hcz8_0 : w7.cell? ⟨gb218,0,none⟩ = some (.slice A0_0 l0_0.length c0_0):=(kC BK218.out 0).trans rfl;have hcz8_1 : w7.cell? ⟨gb218,1,none⟩ = some (.slice A0_1 l0_1.length c0_1):=(kC BK218.out 1).trans rfl;have hcz8_2 : w7.cell? ⟨gb218,2,none⟩ = some (.int .i64 a0_2):=(kC BK218.out 2).trans rfl;have hcz8_3 : w7.cell? ⟨gb218,3,none⟩ = some (.int .i64 a0_3):=(kC BK218.out 3).trans rfl;have hcz8_4 : w7.cell? ⟨gb218,4,none⟩ = some (.int .i64 a0_4):=(kC BK218.out 4).trans rfl;have hfz8_0:=kF BK218.out 0;have hfz8_1:=kF BK218.out 1;have hfz8_2:=kF BK218.out 2;have hfz8_3:=kF BK218.out 3;have hfz8_4:=kF BK218.out 4)|((with_reducible refine gate_callee (f:=14) rfl ?_);refine goesL_ (some 19) rfl rfl Try.func14 (by kernel_rfl) rfl #[.agg #[.slice A0_0 l0_0.length c0_0,.slice A0_1 l0_1.length c0_1,.int .i64 a0_2,.int .i64 a0_3,.int .i64 a0_4],.int .i64 1048576] rfl (by (try simp only [List.map_toArray,List.map_cons,List.map_nil]);first|done|rfl|(simp only [List.length_drop,List.length_take];rfl)) ?_;(with_reducible refine (laws_szProfile.calls _ _ l0_0 _ _ l0_1 a0_2 a0_3 a0_4 1048576 t219 _ ?side1 ?side2 ?side3 ?side4 A5.out).mono ?_);(case side1 => repeat (first|exact (Kd.C_below HR0_0.out HB.out)|(with_reducible refine Kd.C_alloc ?_ _)|(with_reducible refine Kd.C_drewN ?_ _)|(with_reducible refine Kd.C_drew ?_)));(case side2 => exact HC0_0.out);(case side3 => repeat (first|exact (Kd.C_below HR0_1.out HB.out)|(with_reducible refine Kd.C_alloc ?_ _)|(with_reducible refine Kd.C_drewN ?_ _)|(with_reducible refine Kd.C_drew ?_)));(case side4 => exact HC0_1.out);rintro e w9 ⟨rfl,hb⟩;refine ⟨_,rfl,?_⟩;have n0_:=Am (blk_below (g:=gb218) (o:=.cells #[.slice A0_0 l0_0.length c0_0,.slice A0_1 l0_1.length c0_1,.int .i64 a0_2,.int .i64 a0_3,.int .i64 a0_4] 25 (0,0)) (by (with_reducible repeat (first|refine kN ?_ _|refine kD ?_|refine kA ?_ _));exact BK218.out) hb);have n1_:=Am (below_step (by repeat (first|(with_reducible first|exact HB.out|apply bA|apply bN|apply bD|refine bS ?_ GE218.out)|exact HB.out)) hb);clear BK218;clear HB;have BK218:=n0_;have HB:=n1_;clear n0_ n1_;(try clear hb);(try clear hb2);(try clear hk);(try clear hi)))
  go_ret
  exact ⟨by first|rfl|(simp [errW_none,errW_some] <;> rfl)|(simp [*,errW_none,errW_some] <;> rfl),by repeat (first|(with_reducible first|exact HB.out|apply bA|apply bN|apply bD|refine bS ?_ GE218.out)|exact HB.out)⟩
 ·rw [if_neg c6] at H
  have c6b0 : decide (t219 < 0) = false:=decide_eq_false c6
  clear c6
  replace H:=Option.bind_eq_some_iff.mp H
  obtain ⟨⟨t220,t223,t226,t227,t228⟩,A100,H⟩:=H
  replace H : ((spec_Fastest.f k t220 t223 t226 t227 t228 a1 a2 a3).bind fun bt229 => ((laws_toProfile.f k l0_0 l0_1 a0_2 a0_3 a0_4).bind fun bt235 => ((impl_Fastest.f k bt235.1 bt235.2.1 bt235.2.2.1 bt235.2.2.2.1 bt235.2.2.2.2 a1 a2 a3).bind fun bt245 => ((laws_eqRun.f k bt245.1 bt245.2.1 bt245.2.2 bt229.1 bt229.2.1 bt229.2.2).bind fun t251 => (if t251 = true then ((laws_toProfile.f k l0_0 l0_1 a0_2 a0_3 a0_4).bind fun bt252 => ((laws_eqProfile.f k bt235.1 bt235.2.1 bt235.2.2.1 bt235.2.2.2.1 bt235.2.2.2.2 bt252.1 bt252.2.1 bt252.2.2.1 bt252.2.2.2.1 bt252.2.2.2.2).bind fun t261 => (if t261 = true then ((laws_markProfile.f k bt235.1 bt235.2.1 bt235.2.2.1 bt235.2.2.2.1 bt235.2.2.2.2 1).bind fun bt262 => (if bt262.1 < 0 then (laws_FnExactFastest.j0 k a1 a2 a3 true l0_0 l0_1 a0_2 a0_3 a0_4 bt229.1 bt229.2.1 bt229.2.2 bt245.1 bt245.2.1 bt245.2.2) else ((laws_eqRun.f k bt245.1 bt245.2.1 bt245.2.2 bt229.1 bt229.2.1 bt229.2.2).bind fun t265 => (laws_FnExactFastest.j0 k a1 a2 a3 (!t265) l0_0 l0_1 a0_2 a0_3 a0_4 bt229.1 bt229.2.1 bt229.2.2 bt245.1 bt245.2.1 bt245.2.2)))) else (some false)))) else (some false)))))) = some r:=H
  have A10:=Am A100
  clear A100
  replace H:=Option.bind_eq_some_iff.mp H
  obtain ⟨⟨t229,t230,t231⟩,A110,H⟩:=H
  replace H : ((laws_toProfile.f k l0_0 l0_1 a0_2 a0_3 a0_4).bind fun bt235 => ((impl_Fastest.f k bt235.1 bt235.2.1 bt235.2.2.1 bt235.2.2.2.1 bt235.2.2.2.2 a1 a2 a3).bind fun bt245 => ((laws_eqRun.f k bt245.1 bt245.2.1 bt245.2.2 t229 t230 t231).bind fun t251 => (if t251 = true then ((laws_toProfile.f k l0_0 l0_1 a0_2 a0_3 a0_4).bind fun bt252 => ((laws_eqProfile.f k bt235.1 bt235.2.1 bt235.2.2.1 bt235.2.2.2.1 bt235.2.2.2.2 bt252.1 bt252.2.1 bt252.2.2.1 bt252.2.2.2.1 bt252.2.2.2.2).bind fun t261 => (if t261 = true then ((laws_markProfile.f k bt235.1 bt235.2.1 bt235.2.2.1 bt235.2.2.2.1 bt235.2.2.2.2 1).bind fun bt262 => (if bt262.1 < 0 then (laws_FnExactFastest.j0 k a1 a2 a3 true l0_0 l0_1 a0_2 a0_3 a0_4 t229 t230 t231 bt245.1 bt245.2.1 bt245.2.2) else ((laws_eqRun.f k bt245.1 bt245.2.1 bt245.2.2 t229 t230 t231).bind fun t265 => (laws_FnExactFastest.j0 k a1 a2 a3 (!t265) l0_0 l0_1 a0_2 a0_3 a0_4 t229 t230 t231 bt245.1 bt245.2.1 bt245.2.2)))) else (some false)))) else (some false))))) = some r:=H
  have A11:=Am A110
  clear A110
  replace H:=Option.bind_eq_some_iff.mp H
  obtain ⟨⟨t235,t238,t241,t242,t243⟩,A120,H⟩:=H
  replace H : ((impl_Fastest.f k t235 t238 t241 t242 t243 a1 a2 a3).bind fun bt245 => ((laws_eqRun.f k bt245.1 bt245.2.1 bt245.2.2 t229 t230 t231).bind fun t251 => (if t251 = true then ((laws_toProfile.f k l0_0 l0_1 a0_2 a0_3 a0_4).bind fun bt252 => ((laws_eqProfile.f k t235 t238 t241 t242 t243 bt252.1 bt252.2.1 bt252.2.2.1 bt252.2.2.2.1 bt252.2.2.2.2).bind fun t261 => (if t261 = true then ((laws_markProfile.f k t235 t238 t241 t242 t243 1).bind fun bt262 => (if bt262.1 < 0 then (laws_FnExactFastest.j0 k a1 a2 a3 true l0_0 l0_1 a0_2 a0_3 a0_4 t229 t230 t231 bt245.1 bt245.2.1 bt245.2.2) else ((laws_eqRun.f k bt245.1 bt245.2.1 bt245.2.2 t229 t230 t231).bind fun t265 => (laws_FnExactFastest.j0 k a1 a2 a3 (!t265) l0_0 l0_1 a0_2 a0_3 a0_4 t229 t230 t231 bt245.1 bt245.2.1 bt245.2.2)))) else (some false)))) else (some false)))) = some r:=H
  have A12:=Am A120
  clear A120
  replace H:=Option.bind_eq_some_iff.mp H
  obtain ⟨⟨t245,t246,t247⟩,A130,H⟩:=H
  replace H : ((laws_eqRun.f k t245 t246 t247 t229 t230 t231).bind fun t251 => (if t251 = true then ((laws_toProfile.f k l0_0 l0_1 a0_2 a0_3 a0_4).bind fun bt252 => ((laws_eqProfile.f k t235 t238 t241 t242 t243 bt252.1 bt252.2.1 bt252.2.2.1 bt252.2.2.2.1 bt252.2.2.2.2).bind fun t261 => (if t261 = true then ((laws_markProfile.f k t235 t238 t241 t242 t243 1).bind fun bt262 => (if bt262.1 < 0 then (laws_FnExactFastest.j0 k a1 a2 a3 true l0_0 l0_1 a0_2 a0_3 a0_4 t229 t230 t231 t245 t246 t247) else ((laws_eqRun.f k t245 t246 t247 t229 t230 t231).bind fun t265 => (laws_FnExactFastest.j0 k a1 a2 a3 (!t265) l0_0 l0_1 a0_2 a0_3 a0_4 t229 t230 t231 t245 t246 t247)))) else (some false)))) else (some false))) = some r:=H
  have A13:=Am A130
  clear A130
  replace H:=Option.bind_eq_some_iff.mp H
  obtain ⟨t251,A140,H⟩:=H
  replace H : (if t251 = true then ((laws_toProfile.f k l0_0 l0_1 a0_2 a0_3 a0_4).bind fun bt252 => ((laws_eqProfile.f k t235 t238 t241 t242 t243 bt252.1 bt252.2.1 bt252.2.2.1 bt252.2.2.2.1 bt252.2.2.2.2).bind fun t261 => (if t261 = true then ((laws_markProfile.f k t235 t238 t241 t242 t243 1).bind fun bt262 => (if bt262.1 < 0 then (laws_FnExactFastest.j0 k a1 a2 a3 true l0_0 l0_1 a0_2 a0_3 a0_4 t229 t230 t231 t245 t246 t247) else ((laws_eqRun.f k t245 t246 t247 t229 t230 t231).bind fun t265 => (laws_FnExactFastest.j0 k a1 a2 a3 (!t265) l0_0 l0_1 a0_2 a0_3 a0_4 t229 t230 t231 t245 t246 t247)))) else (some false)))) else (some false)) = some r:=H
  have A14:=Am A140
  clear A140
  by_cases c15 : t251 = true
  ·subst c15
   have H1 : ((laws_toProfile.f k l0_0 l0_1 a0_2 a0_3 a0_4).bind fun bt252 => ((laws_eqProfile.f k t235 t238 t241 t242 t243 bt252.1 bt252.2.1 bt252.2.2.1 bt252.2.2.2.1 bt252.2.2.2.2).bind fun t261 => (if t261 = true then ((laws_markProfile.f k t235 t238 t241 t242 t243 1).bind fun bt262 => (if bt262.1 < 0 then (laws_FnExactFastest.j0 k a1 a2 a3 true l0_0 l0_1 a0_2 a0_3 a0_4 t229 t230 t231 t245 t246 t247) else ((laws_eqRun.f k t245 t246 t247 t229 t230 t231).bind fun t265 => (laws_FnExactFastest.j0 k a1 a2 a3 (!t265) l0_0 l0_1 a0_2 a0_3 a0_4 t229 t230 t231 t245 t246 t247)))) else (some false)))) = some r:=by rw [if_pos rfl] at H;exact H
   clear H
   have H:=H1
   clear H1
   replace H:=Option.bind_eq_some_iff.mp H
   obtain ⟨⟨t252,t255,t258,t259,t260⟩,A160,H⟩:=H
   replace H : ((laws_eqProfile.f k t235 t238 t241 t242 t243 t252 t255 t258 t259 t260).bind fun t261 => (if t261 = true then ((laws_markProfile.f k t235 t238 t241 t242 t243 1).bind fun bt262 => (if bt262.1 < 0 then (laws_FnExactFastest.j0 k a1 a2 a3 true l0_0 l0_1 a0_2 a0_3 a0_4 t229 t230 t231 t245 t246 t247) else ((laws_eqRun.f k t245 t246 t247 t229 t230 t231).bind fun t265 => (laws_FnExactFastest.j0 k a1 a2 a3 (!t265) l0_0 l0_1 a0_2 a0_3 a0_4 t229 t230 t231 t245 t246 t247)))) else (some false))) = some r:=H
   have A16:=Am A160
   clear A160
   replace H:=Option.bind_eq_some_iff.mp H
   obtain ⟨t261,A170,H⟩:=H
   replace H : (if t261 = true then ((laws_markProfile.f k t235 t238 t241 t242 t243 1).bind fun bt262 => (if bt262.1 < 0 then (laws_FnExactFastest.j0 k a1 a2 a3 true l0_0 l0_1 a0_2 a0_3 a0_4 t229 t230 t231 t245 t246 t247) else ((laws_eqRun.f k t245 t246 t247 t229 t230 t231).bind fun t265 => (laws_FnExactFastest.j0 k a1 a2 a3 (!t265) l0_0 l0_1 a0_2 a0_3 a0_4 t229 t230 t231 t245 t246 t247)))) else (some false)) = some r:=H
   have A17:=Am A170
   clear A170
   by_cases c18 : t261 = true
   ·subst c18
    have H1 : ((laws_markProfile.f k t235 t238 t241 t242 t243 1).bind fun bt262 => (if bt262.1 < 0 then (laws_FnExactFastest.j0 k a1 a2 a3 true l0_0 l0_1 a0_2 a0_3 a0_4 t229 t230 t231 t245 t246 t247) else ((laws_eqRun.f k t245 t246 t247 t229 t230 t231).bind fun t265 => (laws_FnExactFastest.j0 k a1 a2 a3 (!t265) l0_0 l0_1 a0_2 a0_3 a0_4 t229 t230 t231 t245 t246 t247)))) = some r:=by rw [if_pos rfl] at H;exact H
    clear H
    have H:=H1
    clear H1
    replace H:=Option.bind_eq_some_iff.mp H
    obtain ⟨⟨t262,t263,t264⟩,A190,H⟩:=H
    replace H : (if t262 < 0 then (laws_FnExactFastest.j0 k a1 a2 a3 true l0_0 l0_1 a0_2 a0_3 a0_4 t229 t230 t231 t245 t246 t247) else ((laws_eqRun.f k t245 t246 t247 t229 t230 t231).bind fun t265 => (laws_FnExactFastest.j0 k a1 a2 a3 (!t265) l0_0 l0_1 a0_2 a0_3 a0_4 t229 t230 t231 t245 t246 t247))) = some r:=H
    have A19:=Am A190
    clear A190
    have HC20:=Am H
    clear H
    go_enter Try.func13,Try.ntmps13
    try go_wp2_with (first|((with_reducible refine gate_dst (N:=4) rfl ?_);refine box_event ?hg (N:=4) ?hd (cs:=#[.slice A0_0 l0_0.length c0_0,.slice A0_1 l0_1.length c0_1,.int .i64 a0_2,.int .i64 a0_3,.int .i64 a0_4]) (t:=25) ?hr ?_;(case hd => rfl);(case hg => rfl);(case hr => first|(go_simp;done)|(go_simp;rfl));intro gb218 hg w21 hbox hb;have n0_:=Am (below_step (by repeat (first|(with_reducible first|exact HB.out|apply bA|apply bN|apply bD)|exact HB.out)) hb);have n1_:=Am (hbox);have n2_:=Am ((by rw [hg];exact (below_size (by repeat (first|(with_reducible first|exact HB.out|apply bA|apply bN|apply bD)|exact HB.out))) : w.heap.size ≤ gb218));have n3_:=Am ((by rw [hg];exact (below_size (by repeat (first|(with_reducible first|exact HB.out|apply bA|apply bN|apply bD)|exact HB.out))) : w.heap.size ≤ gb218));clear HB;have HB:=n0_;have BK218:=n1_;have GW218:=n2_;have GE218:=n3_;clear n0_ n1_ n2_ n3_;clear hb hbox hg;have hcz22_0 : w21.cell? ⟨gb218,0,none⟩ = some (.slice A0_0 l0_0.length c0_0):=(kC BK218.out 0).trans rfl;have hcz22_1 : w21.cell? ⟨gb218,1,none⟩ = some (.slice A0_1 l0_1.length c0_1):=(kC BK218.out 1).trans rfl;have hcz22_2 : w21.cell? ⟨gb218,2,none⟩ = some (.int .i64 a0_2):=(kC BK218.out 2).trans rfl;have hcz22_3 : w21.cell? ⟨gb218,3,none⟩ = some (.int .i64 a0_3):=(kC BK218.out 3).trans rfl;have hcz22_4 : w21.cell? ⟨gb218,4,none⟩ = some (.int .i64 a0_4):=(kC BK218.out 4).trans rfl;have hfz22_0:=kF BK218.out 0;have hfz22_1:=kF BK218.out 1;have hfz22_2:=kF BK218.out 2;have hfz22_3:=kF BK218.out 3;have hfz22_4:=kF BK218.out 4)|((with_reducible refine gate_callee (f:=14) rfl ?_);refine goesL_ (some 19) rfl rfl Try.func14 (by kernel_rfl) rfl #[.agg #[.slice A0_0 l0_0.length c0_0,.slice A0_1 l0_1.length c0_1,.int .i64 a0_2,.int .i64 a0_3,.int .i64 a0_4],.int .i64 1048576] rfl (by (try simp only [List.map_toArray,List.map_cons,List.map_nil]);first|done|rfl|(simp only [List.length_drop,List.length_take];rfl)) ?_;(with_reducible refine (laws_szProfile.calls _ _ l0_0 _ _ l0_1 a0_2 a0_3 a0_4 1048576 t219 _ ?side1 ?side2 ?side3 ?side4 A5.out).mono ?_);(case side1 => repeat (first|exact (Kd.C_below HR0_0.out HB.out)|(with_reducible refine Kd.C_alloc ?_ _)|(with_reducible refine Kd.C_drewN ?_ _)|(with_reducible refine Kd.C_drew ?_)));(case side2 => exact HC0_0.out);(case side3 => repeat (first|exact (Kd.C_below HR0_1.out HB.out)|(with_reducible refine Kd.C_alloc ?_ _)|(with_reducible refine Kd.C_drewN ?_ _)|(with_reducible refine Kd.C_drew ?_)));(case side4 => exact HC0_1.out);rintro e w23 ⟨rfl,hb⟩;refine ⟨_,rfl,?_⟩;have n0_:=Am (blk_below (g:=gb218) (o:=.cells #[.slice A0_0 l0_0.length c0_0,.slice A0_1 l0_1.length c0_1,.int .i64 a0_2,.int .i64 a0_3,.int .i64 a0_4] 25 (0,0)) (by (with_reducible repeat (first|refine kN ?_ _|refine kD ?_|refine kA ?_ _));exact BK218.out) hb);have n1_:=Am (below_step (by repeat (first|(with_reducible first|exact HB.out|apply bA|apply bN|apply bD|refine bS ?_ GE218.out)|exact HB.out)) hb);clear BK218;clear HB;have BK218:=n0_;have HB:=n1_;clear n0_ n1_;(try clear hb);(try clear hb2);(try clear hk);(try clear hi);have hcz24_0 : w23.cell? ⟨gb218,0,none⟩ = some (.slice A0_0 l0_0.length c0_0):=(kC BK218.out 0).trans rfl;have hcz24_1 : w23.cell? ⟨gb218,1,none⟩ = some (.slice A0_1 l0_1.length c0_1):=(kC BK218.out 1).trans rfl;have hcz24_2 : w23.cell? ⟨gb218,2,none⟩ = some (.int .i64 a0_2):=(kC BK218.out 2).trans rfl;have hcz24_3 : w23.cell? ⟨gb218,3,none⟩ = some (.int .i64 a0_3):=(kC BK218.out 3).trans rfl;have hcz24_4 : w23.cell? ⟨gb218,4,none⟩ = some (.int .i64 a0_4):=(kC BK218.out 4).trans rfl;have hfz24_0:=kF BK218.out 0;have hfz24_1:=kF BK218.out 1;have hfz24_2:=kF BK218.out 2;have hfz24_3:=kF BK218.out 3;have hfz24_4:=kF BK218.out 4)|((with_reducible refine gate_callee (f:=16) rfl ?_);refine goesL_ (some 23) rfl rfl Try.func16 (by kernel_rfl) rfl #[.agg #[.slice A0_0 l0_0.length c0_0,.slice A0_1 l0_1.length c0_1,.int .i64 a0_2,.int .i64 a0_3,.int .i64 a0_4]] rfl (by (try simp only [List.map_toArray,List.map_cons,List.map_nil]);first|done|rfl|(simp only [List.length_drop,List.length_take];rfl)) ?_;(with_reducible refine (laws_toProfile.calls k _ _ l0_0 _ _ l0_1 a0_2 a0_3 a0_4 t220 t223 t226 t227 t228 _ ?side1 ?side2 ?side3 ?side4 A10.out).mono ?_);(case side1 => repeat (first|exact (Kd.C_below HR0_0.out HB.out)|(with_reducible refine Kd.C_alloc ?_ _)|(with_reducible refine Kd.C_drewN ?_ _)|(with_reducible refine Kd.C_drew ?_)));(case side2 => exact HC0_0.out);(case side3 => repeat (first|exact (Kd.C_below HR0_1.out HB.out)|(with_reducible refine Kd.C_alloc ?_ _)|(with_reducible refine Kd.C_drewN ?_ _)|(with_reducible refine Kd.C_drew ?_)));(case side4 => exact HC0_1.out);rintro e w25 ⟨v221,v224,rfl,ho0,ho1,hb⟩;refine ⟨_,rfl,?_⟩;have n0_:=Am (Kd.R_lower ho0 (below_size (by repeat (first|(with_reducible first|exact HB.out|apply bA|apply bN|apply bD|refine bS ?_ GE218.out)|exact HB.out))));have n1_:=Am (Kd.R_lower ho1 (below_size (by repeat (first|(with_reducible first|exact HB.out|apply bA|apply bN|apply bD|refine bS ?_ GE218.out)|exact HB.out))));have n2_:=Am (blk_below (g:=gb218) (o:=.cells #[.slice A0_0 l0_0.length c0_0,.slice A0_1 l0_1.length c0_1,.int .i64 a0_2,.int .i64 a0_3,.int .i64 a0_4] 25 (0,0)) (by (with_reducible repeat (first|refine kN ?_ _|refine kD ?_|refine kA ?_ _));exact BK218.out) hb);have n3_:=Am (below_step (by repeat (first|(with_reducible first|exact HB.out|apply bA|apply bN|apply bD|refine bS ?_ GE218.out)|exact HB.out)) hb);clear BK218;clear HB;have HO222:=n0_;have HO225:=n1_;have BK218:=n2_;have HB:=n3_;clear n0_ n1_ n2_ n3_;(try clear hb);(try clear hb2);(try clear hk);(try clear hi);(try clear ho0);(try clear ho1);obtain ⟨Ao26,co26,eo26⟩:=Kd.R_slice HO222.out;subst eo26;obtain ⟨Ao27,co27,eo27⟩:=Kd.R_slice HO225.out;subst eo27)|((with_reducible refine gate_callee (f:=50) rfl ?_);refine goesL_ (some 27) rfl rfl Try.func50 (by kernel_rfl) rfl #[.agg #[.slice Ao26 t220.length co26,.slice Ao27 t223.length co27,.int .i64 t226,.int .i64 t227,.int .i64 t228],.int .i64 a1,.int .i64 a2,.int .i64 a3] rfl (by (try simp only [List.map_toArray,List.map_cons,List.map_nil]);first|done|rfl|(simp only [List.length_drop,List.length_take];rfl)) ?_;(with_reducible refine (spec_Fastest.calls k _ _ t220 _ _ t223 t226 t227 t228 a1 a2 a3 t229 t230 t231 _ ?side1 ?side2 ?side3 ?side4 A11.out).mono ?_);(case side1 => repeat (first|exact (Kd.R_reads' HO222.out).2.2|(with_reducible refine Kd.C_alloc ?_ _)|(with_reducible refine Kd.C_drewN ?_ _)|(with_reducible refine Kd.C_drew ?_)));(case side2 => exact (Kd.R_reads' HO222.out).2.1);(case side3 => repeat (first|exact (Kd.R_reads' HO225.out).2.2|(with_reducible refine Kd.C_alloc ?_ _)|(with_reducible refine Kd.C_drewN ?_ _)|(with_reducible refine Kd.C_drew ?_)));(case side4 => exact (Kd.R_reads' HO225.out).2.1);rintro e w28 ⟨v232,rfl,ho0,hb⟩;refine ⟨_,rfl,?_⟩;have n0_:=Am (Kd.R_below (by (with_reducible repeat (first|apply Kd.R_alloc|apply Kd.R_drewN|apply Kd.R_drew));exact HO222.out) hb);have n1_:=Am (Kd.R_below (by (with_reducible repeat (first|apply Kd.R_alloc|apply Kd.R_drewN|apply Kd.R_drew));exact HO225.out) hb);have n2_:=Am (Kd.R_lower ho0 (below_size (by repeat (first|(with_reducible first|exact HB.out|apply bA|apply bN|apply bD|refine bS ?_ GE218.out)|exact HB.out))));have n3_:=Am (blk_below (g:=gb218) (o:=.cells #[.slice A0_0 l0_0.length c0_0,.slice A0_1 l0_1.length c0_1,.int .i64 a0_2,.int .i64 a0_3,.int .i64 a0_4] 25 (0,0)) (by (with_reducible repeat (first|refine kN ?_ _|refine kD ?_|refine kA ?_ _));exact BK218.out) hb);have n4_:=Am (below_step (by repeat (first|(with_reducible first|exact HB.out|apply bA|apply bN|apply bD|refine bS ?_ GE218.out)|exact HB.out)) hb);clear HO222;clear HO225;clear BK218;clear HB;have HO222:=n0_;have HO225:=n1_;have HO233:=n2_;have BK218:=n3_;have HB:=n4_;clear n0_ n1_ n2_ n3_ n4_;(try clear hb);(try clear hb2);(try clear hk);(try clear hi);(try clear ho0))|((with_reducible refine gate_dst (N:=10) rfl ?_);refine box_event ?hg (N:=10) ?hd (cs:=#[.bool false,.int .i64 0,.slice none 0 0]) (t:=63) ?hr ?_;(case hd => rfl);(case hg => rfl);(case hr => first|(go_simp;done)|(go_simp;rfl));intro gb234 hg w29 hbox hb;have n0_:=Am (Kd.R_below (by (with_reducible repeat (first|apply Kd.R_alloc|apply Kd.R_drewN|apply Kd.R_drew));exact HO222.out) hb);have n1_:=Am (Kd.R_below (by (with_reducible repeat (first|apply Kd.R_alloc|apply Kd.R_drewN|apply Kd.R_drew));exact HO225.out) hb);have n2_:=Am (Kd.R_below (by (with_reducible repeat (first|apply Kd.R_alloc|apply Kd.R_drewN|apply Kd.R_drew));exact HO233.out) hb);have n3_:=Am (blk_below (g:=gb218) (o:=.cells #[.slice A0_0 l0_0.length c0_0,.slice A0_1 l0_1.length c0_1,.int .i64 a0_2,.int .i64 a0_3,.int .i64 a0_4] 25 (0,0)) (by (with_reducible repeat (first|refine kN ?_ _|refine kD ?_|refine kA ?_ _));exact BK218.out) hb);have n4_:=Am (below_step (by repeat (first|(with_reducible first|exact HB.out|apply bA|apply bN|apply bD|refine bS ?_ GE218.out)|exact HB.out)) hb);have n5_:=Am (hbox);have n6_:=Am ((by rw [hg];exact (below_size (by repeat (first|(with_reducible first|exact HB.out|apply bA|apply bN|apply bD|refine bS ?_ GE218.out)|exact HB.out))) : w.heap.size ≤ gb234));have n7_:=Am ((by rw [hg];exact (below_size (by repeat (first|(with_reducible first|exact HB.out|apply bA|apply bN|apply bD|refine bS ?_ GE218.out)|exact HB.out))) : w.heap.size ≤ gb234));have n8_:=Am ((by rw [hg];exact Nat.ne_of_lt (blk_lt (g:=gb218) (o:=.cells #[.slice A0_0 l0_0.length c0_0,.slice A0_1 l0_1.length c0_1,.int .i64 a0_2,.int .i64 a0_3,.int .i64 a0_4] 25 (0,0)) (by (with_reducible repeat (first|refine kN ?_ _|refine kD ?_|refine kA ?_ _));exact BK218.out)) : gb218 ≠ gb234));have n9_:=Am ((by rw [hg];exact Nat.ne_of_gt (blk_lt (g:=gb218) (o:=.cells #[.slice A0_0 l0_0.length c0_0,.slice A0_1 l0_1.length c0_1,.int .i64 a0_2,.int .i64 a0_3,.int .i64 a0_4] 25 (0,0)) (by (with_reducible repeat (first|refine kN ?_ _|refine kD ?_|refine kA ?_ _));exact BK218.out)) : gb234 ≠ gb218));clear HO222;clear HO225;clear HO233;clear BK218;clear HB;have HO222:=n0_;have HO225:=n1_;have HO233:=n2_;have BK218:=n3_;have HB:=n4_;have BK234:=n5_;have GW234:=n6_;have GE234:=n7_;have NB218_234:=n8_;have NB234_218:=n9_;clear n0_ n1_ n2_ n3_ n4_ n5_ n6_ n7_ n8_ n9_;clear hb hbox hg;have hnb30:=NB234_218.out;have hnc30:=NB218_234.out;have hcz31_0 : w29.cell? ⟨gb234,0,none⟩ = some (.bool false):=(kC BK234.out 0).trans rfl;have hcz31_1 : w29.cell? ⟨gb234,1,none⟩ = some (.int .i64 0):=(kC BK234.out 1).trans rfl;have hcz31_2 : w29.cell? ⟨gb234,2,none⟩ = some (.slice none 0 0):=(kC BK234.out 2).trans rfl;have hfz31_0:=kF BK234.out 0;have hfz31_1:=kF BK234.out 1;have hfz31_2:=kF BK234.out 2;obtain ⟨Ao32,co32,eo32⟩:=Kd.R_slice HO233.out;subst eo32;have hcz33_0 : w29.cell? ⟨gb218,0,none⟩ = some (.slice A0_0 l0_0.length c0_0):=(kC BK218.out 0).trans rfl;have hcz33_1 : w29.cell? ⟨gb218,1,none⟩ = some (.slice A0_1 l0_1.length c0_1):=(kC BK218.out 1).trans rfl;have hcz33_2 : w29.cell? ⟨gb218,2,none⟩ = some (.int .i64 a0_2):=(kC BK218.out 2).trans rfl;have hcz33_3 : w29.cell? ⟨gb218,3,none⟩ = some (.int .i64 a0_3):=(kC BK218.out 3).trans rfl;have hcz33_4 : w29.cell? ⟨gb218,4,none⟩ = some (.int .i64 a0_4):=(kC BK218.out 4).trans rfl;have hfz33_0:=kF BK218.out 0;have hfz33_1:=kF BK218.out 1;have hfz33_2:=kF BK218.out 2;have hfz33_3:=kF BK218.out 3;have hfz33_4:=kF BK218.out 4)|((with_reducible refine gate_callee (f:=16) rfl ?_);refine goesL_ (some 29) rfl rfl Try.func16 (by kernel_rfl) rfl #[.agg #[.slice A0_0 l0_0.length c0_0,.slice A0_1 l0_1.length c0_1,.int .i64 a0_2,.int .i64 a0_3,.int .i64 a0_4]] rfl (by (try simp only [List.map_toArray,List.map_cons,List.map_nil]);first|done|rfl|(simp only [List.length_drop,List.length_take];rfl)) ?_;(with_reducible refine (laws_toProfile.calls k _ _ l0_0 _ _ l0_1 a0_2 a0_3 a0_4 t235 t238 t241 t242 t243 _ ?side1 ?side2 ?side3 ?side4 A12.out).mono ?_);(case side1 => exact Kd.C_below HR0_0.out (by repeat (first|(with_reducible first|exact HB.out|apply bA|apply bN|apply bD|refine bS ?_ GE218.out|refine bS ?_ GE234.out)|exact HB.out)));(case side2 => exact HC0_0.out);(case side3 => exact Kd.C_below HR0_1.out (by repeat (first|(with_reducible first|exact HB.out|apply bA|apply bN|apply bD|refine bS ?_ GE218.out|refine bS ?_ GE234.out)|exact HB.out)));(case side4 => exact HC0_1.out);rintro e w34 ⟨v236,v239,rfl,ho0,ho1,hb⟩;refine ⟨_,rfl,?_⟩;have n0_:=Am (Kd.R_elder' (by (with_reducible repeat (first|apply Kd.R_alloc|apply Kd.R_drewN|apply Kd.R_drew));exact (Kd.R_mono (Kd.R_far (p:=⟨gb234,2,none⟩) (Kd.R_far (p:=⟨gb234,1,none⟩) (Kd.R_far (p:=⟨gb234,0,none⟩) (Kd.R_types HO222.out BK234.out (by decide)) (fun _ hk => hk.2) (.bool t229)) (fun _ hk => hk.2) (.int .i64 t230)) (fun _ hk => hk.2) (.slice Ao32 t231.length co32)) (fun _ h_ => h_.1))) (Kd.R_base ho0) hb);have n1_:=Am (Kd.R_elder' (by (with_reducible repeat (first|apply Kd.R_alloc|apply Kd.R_drewN|apply Kd.R_drew));exact (Kd.R_mono (Kd.R_far (p:=⟨gb234,2,none⟩) (Kd.R_far (p:=⟨gb234,1,none⟩) (Kd.R_far (p:=⟨gb234,0,none⟩) (Kd.R_types HO225.out BK234.out (by decide)) (fun _ hk => hk.2) (.bool t229)) (fun _ hk => hk.2) (.int .i64 t230)) (fun _ hk => hk.2) (.slice Ao32 t231.length co32)) (fun _ h_ => h_.1))) (Kd.R_base ho1) hb);have n2_:=Am (Kd.R_below (by (with_reducible repeat (first|apply Kd.R_alloc|apply Kd.R_drewN|apply Kd.R_drew));exact (Kd.R_mono (Kd.R_far (p:=⟨gb234,2,none⟩) (Kd.R_far (p:=⟨gb234,1,none⟩) (Kd.R_far (p:=⟨gb234,0,none⟩) (Kd.R_types HO233.out BK234.out (by decide)) (fun _ hk => hk.2) (.bool t229)) (fun _ hk => hk.2) (.int .i64 t230)) (fun _ hk => hk.2) (.slice Ao32 t231.length co32)) (fun _ h_ => h_.1))) hb);have n3_:=Am (Kd.R_lower (Kd.R_new' ho0 (Kd.R_lt (by (with_reducible repeat (first|apply Kd.R_alloc|apply Kd.R_drewN|apply Kd.R_drew));exact (Kd.R_mono (Kd.R_far (p:=⟨gb234,2,none⟩) (Kd.R_far (p:=⟨gb234,1,none⟩) (Kd.R_far (p:=⟨gb234,0,none⟩) (Kd.R_types HO222.out BK234.out (by decide)) (fun _ hk => hk.2) (.bool t229)) (fun _ hk => hk.2) (.int .i64 t230)) (fun _ hk => hk.2) (.slice Ao32 t231.length co32)) (fun _ h_ => h_.1))))) (below_size (by repeat (first|(with_reducible first|exact HB.out|apply bA|apply bN|apply bD|refine bS ?_ GE218.out|refine bS ?_ GE234.out)|exact HB.out))));have n4_:=Am (Kd.R_lower (Kd.R_new' ho1 (Kd.R_lt (by (with_reducible repeat (first|apply Kd.R_alloc|apply Kd.R_drewN|apply Kd.R_drew));exact (Kd.R_mono (Kd.R_far (p:=⟨gb234,2,none⟩) (Kd.R_far (p:=⟨gb234,1,none⟩) (Kd.R_far (p:=⟨gb234,0,none⟩) (Kd.R_types HO225.out BK234.out (by decide)) (fun _ hk => hk.2) (.bool t229)) (fun _ hk => hk.2) (.int .i64 t230)) (fun _ hk => hk.2) (.slice Ao32 t231.length co32)) (fun _ h_ => h_.1))))) (below_size (by repeat (first|(with_reducible first|exact HB.out|apply bA|apply bN|apply bD|refine bS ?_ GE218.out|refine bS ?_ GE234.out)|exact HB.out))));have n5_:=Am (blk_below (g:=gb218) (o:=.cells #[.slice A0_0 l0_0.length c0_0,.slice A0_1 l0_1.length c0_1,.int .i64 a0_2,.int .i64 a0_3,.int .i64 a0_4] 25 (0,0)) (by (with_reducible repeat (first|refine kN ?_ _|refine kD ?_|refine kA ?_ _));refine blk_far ?_ NB218_234.out _;(with_reducible repeat (first|refine kN ?_ _|refine kD ?_|refine kA ?_ _));refine blk_far ?_ NB218_234.out _;(with_reducible repeat (first|refine kN ?_ _|refine kD ?_|refine kA ?_ _));refine blk_far ?_ NB218_234.out _;(with_reducible repeat (first|refine kN ?_ _|refine kD ?_|refine kA ?_ _));exact BK218.out) hb);have n6_:=Am (blk_below (g:=gb234) (o:=.cells #[.bool t229,.int .i64 t230,.slice Ao32 t231.length co32] 63 (0,0)) (by (with_reducible repeat (first|refine kN ?_ _|refine kD ?_|refine kA ?_ _));refine blk_put (cs:=#[.bool t229,.int .i64 t230,.slice none 0 0]) ?_ 2 _ rfl;(with_reducible repeat (first|refine kN ?_ _|refine kD ?_|refine kA ?_ _));refine blk_put (cs:=#[.bool t229,.int .i64 0,.slice none 0 0]) ?_ 1 _ rfl;(with_reducible repeat (first|refine kN ?_ _|refine kD ?_|refine kA ?_ _));refine blk_put (cs:=#[.bool false,.int .i64 0,.slice none 0 0]) ?_ 0 _ rfl;(with_reducible repeat (first|refine kN ?_ _|refine kD ?_|refine kA ?_ _));exact BK234.out) hb);have n7_:=Am (below_step (by repeat (first|(with_reducible first|exact HB.out|apply bA|apply bN|apply bD|refine bS ?_ GE218.out|refine bS ?_ GE234.out)|exact HB.out)) hb);clear HO222;clear HO225;clear HO233;clear BK218;clear BK234;clear HB;have HO222:=n0_;have HO225:=n1_;have HO233:=n2_;have HO237:=n3_;have HO240:=n4_;have BK218:=n5_;have BK234:=n6_;have HB:=n7_;clear n0_ n1_ n2_ n3_ n4_ n5_ n6_ n7_;(try clear hb);(try clear hb2);(try clear hk);(try clear hi);(try clear ho0);(try clear ho1))|((with_reducible refine gate_dst (N:=11) rfl ?_);refine box_event ?hg (N:=11) ?hd (cs:=#[.slice none 0 0,.slice none 0 0,.int .i64 0,.int .i64 0,.int .i64 0]) (t:=31) ?hr ?_;(case hd => rfl);(case hg => rfl);(case hr => first|(go_simp;done)|(go_simp;rfl));intro gb244 hg w35 hbox hb;have n0_:=Am (Kd.R_below (by (with_reducible repeat (first|apply Kd.R_alloc|apply Kd.R_drewN|apply Kd.R_drew));exact HO222.out) hb);have n1_:=Am (Kd.R_below (by (with_reducible repeat (first|apply Kd.R_alloc|apply Kd.R_drewN|apply Kd.R_drew));exact HO225.out) hb);have n2_:=Am (Kd.R_below (by (with_reducible repeat (first|apply Kd.R_alloc|apply Kd.R_drewN|apply Kd.R_drew));exact HO233.out) hb);have n3_:=Am (Kd.R_below (by (with_reducible repeat (first|apply Kd.R_alloc|apply Kd.R_drewN|apply Kd.R_drew));exact HO237.out) hb);have n4_:=Am (Kd.R_below (by (with_reducible repeat (first|apply Kd.R_alloc|apply Kd.R_drewN|apply Kd.R_drew));exact HO240.out) hb);have n5_:=Am (blk_below (g:=gb218) (o:=.cells #[.slice A0_0 l0_0.length c0_0,.slice A0_1 l0_1.length c0_1,.int .i64 a0_2,.int .i64 a0_3,.int .i64 a0_4] 25 (0,0)) (by (with_reducible repeat (first|refine kN ?_ _|refine kD ?_|refine kA ?_ _));exact BK218.out) hb);have n6_:=Am (blk_below (g:=gb234) (o:=.cells #[.bool t229,.int .i64 t230,.slice Ao32 t231.length co32] 63 (0,0)) (by (with_reducible repeat (first|refine kN ?_ _|refine kD ?_|refine kA ?_ _));exact BK234.out) hb);have n7_:=Am (below_step (by repeat (first|(with_reducible first|exact HB.out|apply bA|apply bN|apply bD|refine bS ?_ GE218.out|refine bS ?_ GE234.out)|exact HB.out)) hb);have n8_:=Am (hbox);have n9_:=Am ((by rw [hg];exact (below_size (by repeat (first|(with_reducible first|exact HB.out|apply bA|apply bN|apply bD|refine bS ?_ GE218.out|refine bS ?_ GE234.out)|exact HB.out))) : w.heap.size ≤ gb244));have n10_:=Am ((by rw [hg];exact (below_size (by repeat (first|(with_reducible first|exact HB.out|apply bA|apply bN|apply bD|refine bS ?_ GE218.out|refine bS ?_ GE234.out)|exact HB.out))) : w.heap.size ≤ gb244));have n11_:=Am ((by rw [hg];exact Nat.ne_of_lt (blk_lt (g:=gb218) (o:=.cells #[.slice A0_0 l0_0.length c0_0,.slice A0_1 l0_1.length c0_1,.int .i64 a0_2,.int .i64 a0_3,.int .i64 a0_4] 25 (0,0)) (by (with_reducible repeat (first|refine kN ?_ _|refine kD ?_|refine kA ?_ _));exact BK218.out)) : gb218 ≠ gb244));have n12_:=Am ((by rw [hg];exact Nat.ne_of_gt (blk_lt (g:=gb218) (o:=.cells #[.slice A0_0 l0_0.length c0_0,.slice A0_1 l0_1.length c0_1,.int .i64 a0_2,.int .i64 a0_3,.int .i64 a0_4] 25 (0,0)) (by (with_reducible repeat (first|refine kN ?_ _|refine kD ?_|refine kA ?_ _));exact BK218.out)) : gb244 ≠ gb218));have n13_:=Am ((by rw [hg];exact Nat.ne_of_lt (blk_lt (g:=gb234) (o:=.cells #[.bool t229,.int .i64 t230,.slice Ao32 t231.length co32] 63 (0,0)) (by (with_reducible repeat (first|refine kN ?_ _|refine kD ?_|refine kA ?_ _));exact BK234.out)) : gb234 ≠ gb244));have n14_:=Am ((by rw [hg];exact Nat.ne_of_gt (blk_lt (g:=gb234) (o:=.cells #[.bool t229,.int .i64 t230,.slice Ao32 t231.length co32] 63 (0,0)) (by (with_reducible repeat (first|refine kN ?_ _|refine kD ?_|refine kA ?_ _));exact BK234.out)) : gb244 ≠ gb234));clear HO222;clear HO225;clear HO233;clear HO237;clear HO240;clear BK218;clear BK234;clear HB;have HO222:=n0_;have HO225:=n1_;have HO233:=n2_;have HO237:=n3_;have HO240:=n4_;have BK218:=n5_;have BK234:=n6_;have HB:=n7_;have BK244:=n8_;have GW244:=n9_;have GE244:=n10_;have NB218_244:=n11_;have NB244_218:=n12_;have NB234_244:=n13_;have NB244_234:=n14_;clear n0_ n1_ n2_ n3_ n4_ n5_ n6_ n7_ n8_ n9_ n10_ n11_ n12_ n13_ n14_;clear hb hbox hg;obtain ⟨Ao36,co36,eo36⟩:=Kd.R_slice HO237.out;subst eo36;have hnb37:=NB244_218.out;have hnc37:=NB218_244.out;have hnb38:=NB244_234.out;have hnc38:=NB234_244.out;have hcz39_0 : w35.cell? ⟨gb244,0,none⟩ = some (.slice none 0 0):=(kC BK244.out 0).trans rfl;have hcz39_1 : w35.cell? ⟨gb244,1,none⟩ = some (.slice none 0 0):=(kC BK244.out 1).trans rfl;have hcz39_2 : w35.cell? ⟨gb244,2,none⟩ = some (.int .i64 0):=(kC BK244.out 2).trans rfl;have hcz39_3 : w35.cell? ⟨gb244,3,none⟩ = some (.int .i64 0):=(kC BK244.out 3).trans rfl;have hcz39_4 : w35.cell? ⟨gb244,4,none⟩ = some (.int .i64 0):=(kC BK244.out 4).trans rfl;have hfz39_0:=kF BK244.out 0;have hfz39_1:=kF BK244.out 1;have hfz39_2:=kF BK244.out 2;have hfz39_3:=kF BK244.out 3;have hfz39_4:=kF BK244.out 4;obtain ⟨Ao40,co40,eo40⟩:=Kd.R_slice HO240.out;subst eo40)|((with_reducible refine gate_callee (f:=51) rfl ?_);refine goesL_ (some 34) rfl rfl Try.func51 (by kernel_rfl) rfl #[.agg #[.slice Ao36 t235.length co36,.slice Ao40 t238.length co40,.int .i64 t241,.int .i64 t242,.int .i64 t243],.int .i64 a1,.int .i64 a2,.int .i64 a3] rfl (by (try simp only [List.map_toArray,List.map_cons,List.map_nil]);first|done|rfl|(simp only [List.length_drop,List.length_take];rfl)) ?_;(with_reducible refine (impl_Fastest.calls k _ _ t235 _ _ t238 t241 t242 t243 a1 a2 a3 t245 t246 t247 _ ?side1 ?side2 ?side3 ?side4 A13.out).mono ?_);(case side1 => refine (Kd.R_reads' (e:=71) (base:=w.heap.size) (ok:=fun k_ => (True∧some k_ ≠ (.slice Ao26 t220.length co26 : Value).ownBlock)) (n:=t235.length) (c:=co36) ?_).2.2;exact (by (with_reducible repeat (first|apply Kd.R_alloc|apply Kd.R_drewN|apply Kd.R_drew));exact (Kd.R_mono (Kd.R_far (p:=⟨gb244,4,none⟩) (Kd.R_far (p:=⟨gb244,3,none⟩) (Kd.R_far (p:=⟨gb244,2,none⟩) (Kd.R_far (p:=⟨gb244,1,none⟩) (Kd.R_far (p:=⟨gb244,0,none⟩) (Kd.R_types HO237.out BK244.out (by decide)) (fun _ hk => hk.2) (.slice Ao36 t235.length co36)) (fun _ hk => hk.2) (.slice Ao40 t238.length co40)) (fun _ hk => hk.2) (.int .i64 t241)) (fun _ hk => hk.2) (.int .i64 t242)) (fun _ hk => hk.2) (.int .i64 t243)) (fun _ h_ => h_.1))));(case side2 => exact (Kd.R_reads' HO237.out).2.1);(case side3 => refine (Kd.R_reads' (e:=75) (base:=w.heap.size) (ok:=fun k_ => (True∧some k_ ≠ (.slice Ao27 t223.length co27 : Value).ownBlock)) (n:=t238.length) (c:=co40) ?_).2.2;exact (by (with_reducible repeat (first|apply Kd.R_alloc|apply Kd.R_drewN|apply Kd.R_drew));exact (Kd.R_mono (Kd.R_far (p:=⟨gb244,4,none⟩) (Kd.R_far (p:=⟨gb244,3,none⟩) (Kd.R_far (p:=⟨gb244,2,none⟩) (Kd.R_far (p:=⟨gb244,1,none⟩) (Kd.R_far (p:=⟨gb244,0,none⟩) (Kd.R_types HO240.out BK244.out (by decide)) (fun _ hk => hk.2) (.slice Ao36 t235.length co36)) (fun _ hk => hk.2) (.slice Ao40 t238.length co40)) (fun _ hk => hk.2) (.int .i64 t241)) (fun _ hk => hk.2) (.int .i64 t242)) (fun _ hk => hk.2) (.int .i64 t243)) (fun _ h_ => h_.1))));(case side4 => exact (Kd.R_reads' HO240.out).2.1);rintro e w41 ⟨v248,rfl,ho0,hb⟩;refine ⟨_,rfl,?_⟩;have n0_:=Am (Kd.R_below (by (with_reducible repeat (first|apply Kd.R_alloc|apply Kd.R_drewN|apply Kd.R_drew));exact (Kd.R_mono (Kd.R_far (p:=⟨gb244,4,none⟩) (Kd.R_far (p:=⟨gb244,3,none⟩) (Kd.R_far (p:=⟨gb244,2,none⟩) (Kd.R_far (p:=⟨gb244,1,none⟩) (Kd.R_far (p:=⟨gb244,0,none⟩) (Kd.R_types HO222.out BK244.out (by decide)) (fun _ hk => hk.2) (.slice Ao36 t235.length co36)) (fun _ hk => hk.2) (.slice Ao40 t238.length co40)) (fun _ hk => hk.2) (.int .i64 t241)) (fun _ hk => hk.2) (.int .i64 t242)) (fun _ hk => hk.2) (.int .i64 t243)) (fun _ h_ => h_.1))) hb);have n1_:=Am (Kd.R_below (by (with_reducible repeat (first|apply Kd.R_alloc|apply Kd.R_drewN|apply Kd.R_drew));exact (Kd.R_mono (Kd.R_far (p:=⟨gb244,4,none⟩) (Kd.R_far (p:=⟨gb244,3,none⟩) (Kd.R_far (p:=⟨gb244,2,none⟩) (Kd.R_far (p:=⟨gb244,1,none⟩) (Kd.R_far (p:=⟨gb244,0,none⟩) (Kd.R_types HO225.out BK244.out (by decide)) (fun _ hk => hk.2) (.slice Ao36 t235.length co36)) (fun _ hk => hk.2) (.slice Ao40 t238.length co40)) (fun _ hk => hk.2) (.int .i64 t241)) (fun _ hk => hk.2) (.int .i64 t242)) (fun _ hk => hk.2) (.int .i64 t243)) (fun _ h_ => h_.1))) hb);have n2_:=Am (Kd.R_elder' (by (with_reducible repeat (first|apply Kd.R_alloc|apply Kd.R_drewN|apply Kd.R_drew));exact (Kd.R_mono (Kd.R_far (p:=⟨gb244,4,none⟩) (Kd.R_far (p:=⟨gb244,3,none⟩) (Kd.R_far (p:=⟨gb244,2,none⟩) (Kd.R_far (p:=⟨gb244,1,none⟩) (Kd.R_far (p:=⟨gb244,0,none⟩) (Kd.R_types HO233.out BK244.out (by decide)) (fun _ hk => hk.2) (.slice Ao36 t235.length co36)) (fun _ hk => hk.2) (.slice Ao40 t238.length co40)) (fun _ hk => hk.2) (.int .i64 t241)) (fun _ hk => hk.2) (.int .i64 t242)) (fun _ hk => hk.2) (.int .i64 t243)) (fun _ h_ => h_.1))) (Kd.R_base ho0) hb);have n3_:=Am (Kd.R_below (by (with_reducible repeat (first|apply Kd.R_alloc|apply Kd.R_drewN|apply Kd.R_drew));exact (Kd.R_mono (Kd.R_far (p:=⟨gb244,4,none⟩) (Kd.R_far (p:=⟨gb244,3,none⟩) (Kd.R_far (p:=⟨gb244,2,none⟩) (Kd.R_far (p:=⟨gb244,1,none⟩) (Kd.R_far (p:=⟨gb244,0,none⟩) (Kd.R_types HO237.out BK244.out (by decide)) (fun _ hk => hk.2) (.slice Ao36 t235.length co36)) (fun _ hk => hk.2) (.slice Ao40 t238.length co40)) (fun _ hk => hk.2) (.int .i64 t241)) (fun _ hk => hk.2) (.int .i64 t242)) (fun _ hk => hk.2) (.int .i64 t243)) (fun _ h_ => h_.1))) hb);have n4_:=Am (Kd.R_below (by (with_reducible repeat (first|apply Kd.R_alloc|apply Kd.R_drewN|apply Kd.R_drew));exact (Kd.R_mono (Kd.R_far (p:=⟨gb244,4,none⟩) (Kd.R_far (p:=⟨gb244,3,none⟩) (Kd.R_far (p:=⟨gb244,2,none⟩) (Kd.R_far (p:=⟨gb244,1,none⟩) (Kd.R_far (p:=⟨gb244,0,none⟩) (Kd.R_types HO240.out BK244.out (by decide)) (fun _ hk => hk.2) (.slice Ao36 t235.length co36)) (fun _ hk => hk.2) (.slice Ao40 t238.length co40)) (fun _ hk => hk.2) (.int .i64 t241)) (fun _ hk => hk.2) (.int .i64 t242)) (fun _ hk => hk.2) (.int .i64 t243)) (fun _ h_ => h_.1))) hb);have n5_:=Am (Kd.R_lower (Kd.R_new' ho0 (Kd.R_lt (by (with_reducible repeat (first|apply Kd.R_alloc|apply Kd.R_drewN|apply Kd.R_drew));exact (Kd.R_mono (Kd.R_far (p:=⟨gb244,4,none⟩) (Kd.R_far (p:=⟨gb244,3,none⟩) (Kd.R_far (p:=⟨gb244,2,none⟩) (Kd.R_far (p:=⟨gb244,1,none⟩) (Kd.R_far (p:=⟨gb244,0,none⟩) (Kd.R_types HO233.out BK244.out (by decide)) (fun _ hk => hk.2) (.slice Ao36 t235.length co36)) (fun _ hk => hk.2) (.slice Ao40 t238.length co40)) (fun _ hk => hk.2) (.int .i64 t241)) (fun _ hk => hk.2) (.int .i64 t242)) (fun _ hk => hk.2) (.int .i64 t243)) (fun _ h_ => h_.1))))) (below_size (by repeat (first|(with_reducible first|exact HB.out|apply bA|apply bN|apply bD|refine bS ?_ GE218.out|refine bS ?_ GE234.out|refine bS ?_ GE244.out)|exact HB.out))));have n6_:=Am (blk_below (g:=gb218) (o:=.cells #[.slice A0_0 l0_0.length c0_0,.slice A0_1 l0_1.length c0_1,.int .i64 a0_2,.int .i64 a0_3,.int .i64 a0_4] 25 (0,0)) (by (with_reducible repeat (first|refine kN ?_ _|refine kD ?_|refine kA ?_ _));refine blk_far ?_ NB218_244.out _;(with_reducible repeat (first|refine kN ?_ _|refine kD ?_|refine kA ?_ _));refine blk_far ?_ NB218_244.out _;(with_reducible repeat (first|refine kN ?_ _|refine kD ?_|refine kA ?_ _));refine blk_far ?_ NB218_244.out _;(with_reducible repeat (first|refine kN ?_ _|refine kD ?_|refine kA ?_ _));refine blk_far ?_ NB218_244.out _;(with_reducible repeat (first|refine kN ?_ _|refine kD ?_|refine kA ?_ _));refine blk_far ?_ NB218_244.out _;(with_reducible repeat (first|refine kN ?_ _|refine kD ?_|refine kA ?_ _));exact BK218.out) hb);have n7_:=Am (blk_below (g:=gb234) (o:=.cells #[.bool t229,.int .i64 t230,.slice Ao32 t231.length co32] 63 (0,0)) (by (with_reducible repeat (first|refine kN ?_ _|refine kD ?_|refine kA ?_ _));refine blk_far ?_ NB234_244.out _;(with_reducible repeat (first|refine kN ?_ _|refine kD ?_|refine kA ?_ _));refine blk_far ?_ NB234_244.out _;(with_reducible repeat (first|refine kN ?_ _|refine kD ?_|refine kA ?_ _));refine blk_far ?_ NB234_244.out _;(with_reducible repeat (first|refine kN ?_ _|refine kD ?_|refine kA ?_ _));refine blk_far ?_ NB234_244.out _;(with_reducible repeat (first|refine kN ?_ _|refine kD ?_|refine kA ?_ _));refine blk_far ?_ NB234_244.out _;(with_reducible repeat (first|refine kN ?_ _|refine kD ?_|refine kA ?_ _));exact BK234.out) hb);have n8_:=Am (blk_below (g:=gb244) (o:=.cells #[.slice Ao36 t235.length co36,.slice Ao40 t238.length co40,.int .i64 t241,.int .i64 t242,.int .i64 t243] 31 (0,0)) (by (with_reducible repeat (first|refine kN ?_ _|refine kD ?_|refine kA ?_ _));refine blk_put (cs:=#[.slice Ao36 t235.length co36,.slice Ao40 t238.length co40,.int .i64 t241,.int .i64 t242,.int .i64 0]) ?_ 4 _ rfl;(with_reducible repeat (first|refine kN ?_ _|refine kD ?_|refine kA ?_ _));refine blk_put (cs:=#[.slice Ao36 t235.length co36,.slice Ao40 t238.length co40,.int .i64 t241,.int .i64 0,.int .i64 0]) ?_ 3 _ rfl;(with_reducible repeat (first|refine kN ?_ _|refine kD ?_|refine kA ?_ _));refine blk_put (cs:=#[.slice Ao36 t235.length co36,.slice Ao40 t238.length co40,.int .i64 0,.int .i64 0,.int .i64 0]) ?_ 2 _ rfl;(with_reducible repeat (first|refine kN ?_ _|refine kD ?_|refine kA ?_ _));refine blk_put (cs:=#[.slice Ao36 t235.length co36,.slice none 0 0,.int .i64 0,.int .i64 0,.int .i64 0]) ?_ 1 _ rfl;(with_reducible repeat (first|refine kN ?_ _|refine kD ?_|refine kA ?_ _));refine blk_put (cs:=#[.slice none 0 0,.slice none 0 0,.int .i64 0,.int .i64 0,.int .i64 0]) ?_ 0 _ rfl;(with_reducible repeat (first|refine kN ?_ _|refine kD ?_|refine kA ?_ _));exact BK244.out) hb);have n9_:=Am (below_step (by repeat (first|(with_reducible first|exact HB.out|apply bA|apply bN|apply bD|refine bS ?_ GE218.out|refine bS ?_ GE234.out|refine bS ?_ GE244.out)|exact HB.out)) hb);clear HO222;clear HO225;clear HO233;clear HO237;clear HO240;clear BK218;clear BK234;clear BK244;clear HB;have HO222:=n0_;have HO225:=n1_;have HO233:=n2_;have HO237:=n3_;have HO240:=n4_;have HO249:=n5_;have BK218:=n6_;have BK234:=n7_;have BK244:=n8_;have HB:=n9_;clear n0_ n1_ n2_ n3_ n4_ n5_ n6_ n7_ n8_ n9_;(try clear hb);(try clear hb2);(try clear hk);(try clear hi);(try clear ho0))|((with_reducible refine gate_dst (N:=12) rfl ?_);refine box_event ?hg (N:=12) ?hd (cs:=#[.bool false,.int .i64 0,.slice none 0 0]) (t:=63) ?hr ?_;(case hd => rfl);(case hg => rfl);(case hr => first|(go_simp;done)|(go_simp;rfl));intro gb250 hg w42 hbox hb;have n0_:=Am (Kd.R_below (by (with_reducible repeat (first|apply Kd.R_alloc|apply Kd.R_drewN|apply Kd.R_drew));exact HO222.out) hb);have n1_:=Am (Kd.R_below (by (with_reducible repeat (first|apply Kd.R_alloc|apply Kd.R_drewN|apply Kd.R_drew));exact HO225.out) hb);have n2_:=Am (Kd.R_below (by (with_reducible repeat (first|apply Kd.R_alloc|apply Kd.R_drewN|apply Kd.R_drew));exact HO233.out) hb);have n3_:=Am (Kd.R_below (by (with_reducible repeat (first|apply Kd.R_alloc|apply Kd.R_drewN|apply Kd.R_drew));exact HO237.out) hb);have n4_:=Am (Kd.R_below (by (with_reducible repeat (first|apply Kd.R_alloc|apply Kd.R_drewN|apply Kd.R_drew));exact HO240.out) hb);have n5_:=Am (Kd.R_below (by (with_reducible repeat (first|apply Kd.R_alloc|apply Kd.R_drewN|apply Kd.R_drew));exact HO249.out) hb);have n6_:=Am (blk_below (g:=gb218) (o:=.cells #[.slice A0_0 l0_0.length c0_0,.slice A0_1 l0_1.length c0_1,.int .i64 a0_2,.int .i64 a0_3,.int .i64 a0_4] 25 (0,0)) (by (with_reducible repeat (first|refine kN ?_ _|refine kD ?_|refine kA ?_ _));exact BK218.out) hb);have n7_:=Am (blk_below (g:=gb234) (o:=.cells #[.bool t229,.int .i64 t230,.slice Ao32 t231.length co32] 63 (0,0)) (by (with_reducible repeat (first|refine kN ?_ _|refine kD ?_|refine kA ?_ _));exact BK234.out) hb);have n8_:=Am (blk_below (g:=gb244) (o:=.cells #[.slice Ao36 t235.length co36,.slice Ao40 t238.length co40,.int .i64 t241,.int .i64 t242,.int .i64 t243] 31 (0,0)) (by (with_reducible repeat (first|refine kN ?_ _|refine kD ?_|refine kA ?_ _));exact BK244.out) hb);have n9_:=Am (below_step (by repeat (first|(with_reducible first|exact HB.out|apply bA|apply bN|apply bD|refine bS ?_ GE218.out|refine bS ?_ GE234.out|refine bS ?_ GE244.out)|exact HB.out)) hb);have n10_:=Am (hbox);have n11_:=Am ((by rw [hg];exact (below_size (by repeat (first|(with_reducible first|exact HB.out|apply bA|apply bN|apply bD|refine bS ?_ GE218.out|refine bS ?_ GE234.out|refine bS ?_ GE244.out)|exact HB.out))) : w.heap.size ≤ gb250));have n12_:=Am ((by rw [hg];exact (below_size (by repeat (first|(with_reducible first|exact HB.out|apply bA|apply bN|apply bD|refine bS ?_ GE218.out|refine bS ?_ GE234.out|refine bS ?_ GE244.out)|exact HB.out))) : w.heap.size ≤ gb250));have n13_:=Am ((by rw [hg];exact Nat.ne_of_lt (blk_lt (g:=gb218) (o:=.cells #[.slice A0_0 l0_0.length c0_0,.slice A0_1 l0_1.length c0_1,.int .i64 a0_2,.int .i64 a0_3,.int .i64 a0_4] 25 (0,0)) (by (with_reducible repeat (first|refine kN ?_ _|refine kD ?_|refine kA ?_ _));exact BK218.out)) : gb218 ≠ gb250));have n14_:=Am ((by rw [hg];exact Nat.ne_of_gt (blk_lt (g:=gb218) (o:=.cells #[.slice A0_0 l0_0.length c0_0,.slice A0_1 l0_1.length c0_1,.int .i64 a0_2,.int .i64 a0_3,.int .i64 a0_4] 25 (0,0)) (by (with_reducible repeat (first|refine kN ?_ _|refine kD ?_|refine kA ?_ _));exact BK218.out)) : gb250 ≠ gb218));have n15_:=Am ((by rw [hg];exact Nat.ne_of_lt (blk_lt (g:=gb234) (o:=.cells #[.bool t229,.int .i64 t230,.slice Ao32 t231.length co32] 63 (0,0)) (by (with_reducible repeat (first|refine kN ?_ _|refine kD ?_|refine kA ?_ _));exact BK234.out)) : gb234 ≠ gb250));have n16_:=Am ((by rw [hg];exact Nat.ne_of_gt (blk_lt (g:=gb234) (o:=.cells #[.bool t229,.int .i64 t230,.slice Ao32 t231.length co32] 63 (0,0)) (by (with_reducible repeat (first|refine kN ?_ _|refine kD ?_|refine kA ?_ _));exact BK234.out)) : gb250 ≠ gb234));have n17_:=Am ((by rw [hg];exact Nat.ne_of_lt (blk_lt (g:=gb244) (o:=.cells #[.slice Ao36 t235.length co36,.slice Ao40 t238.length co40,.int .i64 t241,.int .i64 t242,.int .i64 t243] 31 (0,0)) (by (with_reducible repeat (first|refine kN ?_ _|refine kD ?_|refine kA ?_ _));exact BK244.out)) : gb244 ≠ gb250));have n18_:=Am ((by rw [hg];exact Nat.ne_of_gt (blk_lt (g:=gb244) (o:=.cells #[.slice Ao36 t235.length co36,.slice Ao40 t238.length co40,.int .i64 t241,.int .i64 t242,.int .i64 t243] 31 (0,0)) (by (with_reducible repeat (first|refine kN ?_ _|refine kD ?_|refine kA ?_ _));exact BK244.out)) : gb250 ≠ gb244));clear HO222;clear HO225;clear HO233;clear HO237;clear HO240;clear HO249;clear BK218;clear BK234;clear BK244;clear HB;have HO222:=n0_;have HO225:=n1_;have HO233:=n2_;have HO237:=n3_;have HO240:=n4_;have HO249:=n5_;have BK218:=n6_;have BK234:=n7_;have BK244:=n8_;have HB:=n9_;have BK250:=n10_;have GW250:=n11_;have GE250:=n12_;have NB218_250:=n13_;have NB250_218:=n14_;have NB234_250:=n15_;have NB250_234:=n16_;have NB244_250:=n17_;have NB250_244:=n18_;clear n0_ n1_ n2_ n3_ n4_ n5_ n6_ n7_ n8_ n9_ n10_ n11_ n12_ n13_ n14_ n15_ n16_ n17_ n18_;clear hb hbox hg;have hnb43:=NB250_218.out;have hnc43:=NB218_250.out;have hnb44:=NB250_234.out;have hnc44:=NB234_250.out;have hnb45:=NB250_244.out;have hnc45:=NB244_250.out;have hcz46_0 : w42.cell? ⟨gb250,0,none⟩ = some (.bool false):=(kC BK250.out 0).trans rfl;have hcz46_1 : w42.cell? ⟨gb250,1,none⟩ = some (.int .i64 0):=(kC BK250.out 1).trans rfl;have hcz46_2 : w42.cell? ⟨gb250,2,none⟩ = some (.slice none 0 0):=(kC BK250.out 2).trans rfl;have hfz46_0:=kF BK250.out 0;have hfz46_1:=kF BK250.out 1;have hfz46_2:=kF BK250.out 2;obtain ⟨Ao47,co47,eo47⟩:=Kd.R_slice HO249.out;subst eo47;have hcz48_0 : w42.cell? ⟨gb234,0,none⟩ = some (.bool t229):=(kC BK234.out 0).trans rfl;have hcz48_1 : w42.cell? ⟨gb234,1,none⟩ = some (.int .i64 t230):=(kC BK234.out 1).trans rfl;have hcz48_2 : w42.cell? ⟨gb234,2,none⟩ = some (.slice Ao32 t231.length co32):=(kC BK234.out 2).trans rfl;have hfz48_0:=kF BK234.out 0;have hfz48_1:=kF BK234.out 1;have hfz48_2:=kF BK234.out 2)|((with_reducible refine gate_callee (f:=52) rfl ?_);refine goesL_ (some 37) rfl rfl Try.func52 (by kernel_rfl) rfl #[.agg #[.bool t245,.int .i64 t246,.slice Ao47 t247.length co47],.agg #[.bool t229,.int .i64 t230,.slice Ao32 t231.length co32]] rfl (by (try simp only [List.map_toArray,List.map_cons,List.map_nil]);first|done|rfl|(simp only [List.length_drop,List.length_take];rfl)) ?_;(with_reducible refine (laws_eqRun.calls k t245 t246 _ _ t247 t229 t230 _ _ t231 true _ ?side1 ?side2 ?side3 ?side4 A14.out).mono ?_);(case side1 => refine (Kd.R_reads' (e:=3) (base:=w.heap.size) (ok:=fun k_ => (True∧some k_ ≠ (.slice Ao32 t231.length co32 : Value).ownBlock)) (n:=t247.length) (c:=co47) ?_).2.2;exact (by (with_reducible repeat (first|apply Kd.R_alloc|apply Kd.R_drewN|apply Kd.R_drew));exact (Kd.R_mono (Kd.R_far (p:=⟨gb250,2,none⟩) (Kd.R_far (p:=⟨gb250,1,none⟩) (Kd.R_far (p:=⟨gb250,0,none⟩) (Kd.R_types HO249.out BK250.out (by decide)) (fun _ hk => hk.2) (.bool t245)) (fun _ hk => hk.2) (.int .i64 t246)) (fun _ hk => hk.2) (.slice Ao47 t247.length co47)) (fun _ h_ => h_.1))));(case side2 => exact (Kd.R_reads' HO249.out).2.1);(case side3 => refine (Kd.R_reads' (e:=3) (base:=w.heap.size) (ok:=fun k_ => (True∧some k_ ≠ (.slice Ao47 t247.length co47 : Value).ownBlock)) (n:=t231.length) (c:=co32) ?_).2.2;exact (by (with_reducible repeat (first|apply Kd.R_alloc|apply Kd.R_drewN|apply Kd.R_drew));exact (Kd.R_mono (Kd.R_far (p:=⟨gb250,2,none⟩) (Kd.R_far (p:=⟨gb250,1,none⟩) (Kd.R_far (p:=⟨gb250,0,none⟩) (Kd.R_types HO233.out BK250.out (by decide)) (fun _ hk => hk.2) (.bool t245)) (fun _ hk => hk.2) (.int .i64 t246)) (fun _ hk => hk.2) (.slice Ao47 t247.length co47)) (fun _ h_ => h_.1))));(case side4 => exact (Kd.R_reads' HO233.out).2.1);rintro e w49 ⟨rfl,hb⟩;refine ⟨_,rfl,?_⟩;have n0_:=Am (Kd.R_below (by (with_reducible repeat (first|apply Kd.R_alloc|apply Kd.R_drewN|apply Kd.R_drew));exact (Kd.R_mono (Kd.R_far (p:=⟨gb250,2,none⟩) (Kd.R_far (p:=⟨gb250,1,none⟩) (Kd.R_far (p:=⟨gb250,0,none⟩) (Kd.R_types HO222.out BK250.out (by decide)) (fun _ hk => hk.2) (.bool t245)) (fun _ hk => hk.2) (.int .i64 t246)) (fun _ hk => hk.2) (.slice Ao47 t247.length co47)) (fun _ h_ => h_.1))) hb);have n1_:=Am (Kd.R_below (by (with_reducible repeat (first|apply Kd.R_alloc|apply Kd.R_drewN|apply Kd.R_drew));exact (Kd.R_mono (Kd.R_far (p:=⟨gb250,2,none⟩) (Kd.R_far (p:=⟨gb250,1,none⟩) (Kd.R_far (p:=⟨gb250,0,none⟩) (Kd.R_types HO225.out BK250.out (by decide)) (fun _ hk => hk.2) (.bool t245)) (fun _ hk => hk.2) (.int .i64 t246)) (fun _ hk => hk.2) (.slice Ao47 t247.length co47)) (fun _ h_ => h_.1))) hb);have n2_:=Am (Kd.R_below (by (with_reducible repeat (first|apply Kd.R_alloc|apply Kd.R_drewN|apply Kd.R_drew));exact (Kd.R_mono (Kd.R_far (p:=⟨gb250,2,none⟩) (Kd.R_far (p:=⟨gb250,1,none⟩) (Kd.R_far (p:=⟨gb250,0,none⟩) (Kd.R_types HO233.out BK250.out (by decide)) (fun _ hk => hk.2) (.bool t245)) (fun _ hk => hk.2) (.int .i64 t246)) (fun _ hk => hk.2) (.slice Ao47 t247.length co47)) (fun _ h_ => h_.1))) hb);have n3_:=Am (Kd.R_below (by (with_reducible repeat (first|apply Kd.R_alloc|apply Kd.R_drewN|apply Kd.R_drew));exact (Kd.R_mono (Kd.R_far (p:=⟨gb250,2,none⟩) (Kd.R_far (p:=⟨gb250,1,none⟩) (Kd.R_far (p:=⟨gb250,0,none⟩) (Kd.R_types HO237.out BK250.out (by decide)) (fun _ hk => hk.2) (.bool t245)) (fun _ hk => hk.2) (.int .i64 t246)) (fun _ hk => hk.2) (.slice Ao47 t247.length co47)) (fun _ h_ => h_.1))) hb);have n4_:=Am (Kd.R_below (by (with_reducible repeat (first|apply Kd.R_alloc|apply Kd.R_drewN|apply Kd.R_drew));exact (Kd.R_mono (Kd.R_far (p:=⟨gb250,2,none⟩) (Kd.R_far (p:=⟨gb250,1,none⟩) (Kd.R_far (p:=⟨gb250,0,none⟩) (Kd.R_types HO240.out BK250.out (by decide)) (fun _ hk => hk.2) (.bool t245)) (fun _ hk => hk.2) (.int .i64 t246)) (fun _ hk => hk.2) (.slice Ao47 t247.length co47)) (fun _ h_ => h_.1))) hb);have n5_:=Am (Kd.R_below (by (with_reducible repeat (first|apply Kd.R_alloc|apply Kd.R_drewN|apply Kd.R_drew));exact (Kd.R_mono (Kd.R_far (p:=⟨gb250,2,none⟩) (Kd.R_far (p:=⟨gb250,1,none⟩) (Kd.R_far (p:=⟨gb250,0,none⟩) (Kd.R_types HO249.out BK250.out (by decide)) (fun _ hk => hk.2) (.bool t245)) (fun _ hk => hk.2) (.int .i64 t246)) (fun _ hk => hk.2) (.slice Ao47 t247.length co47)) (fun _ h_ => h_.1))) hb);have n6_:=Am (blk_below (g:=gb218) (o:=.cells #[.slice A0_0 l0_0.length c0_0,.slice A0_1 l0_1.length c0_1,.int .i64 a0_2,.int .i64 a0_3,.int .i64 a0_4] 25 (0,0)) (by (with_reducible repeat (first|refine kN ?_ _|refine kD ?_|refine kA ?_ _));refine blk_far ?_ NB218_250.out _;(with_reducible repeat (first|refine kN ?_ _|refine kD ?_|refine kA ?_ _));refine blk_far ?_ NB218_250.out _;(with_reducible repeat (first|refine kN ?_ _|refine kD ?_|refine kA ?_ _));refine blk_far ?_ NB218_250.out _;(with_reducible repeat (first|refine kN ?_ _|refine kD ?_|refine kA ?_ _));exact BK218.out) hb);have n7_:=Am (blk_below (g:=gb234) (o:=.cells #[.bool t229,.int .i64 t230,.slice Ao32 t231.length co32] 63 (0,0)) (by (with_reducible repeat (first|refine kN ?_ _|refine kD ?_|refine kA ?_ _));refine blk_far ?_ NB234_250.out _;(with_reducible repeat (first|refine kN ?_ _|refine kD ?_|refine kA ?_ _));refine blk_far ?_ NB234_250.out _;(with_reducible repeat (first|refine kN ?_ _|refine kD ?_|refine kA ?_ _));refine blk_far ?_ NB234_250.out _;(with_reducible repeat (first|refine kN ?_ _|refine kD ?_|refine kA ?_ _));exact BK234.out) hb);have n8_:=Am (blk_below (g:=gb244) (o:=.cells #[.slice Ao36 t235.length co36,.slice Ao40 t238.length co40,.int .i64 t241,.int .i64 t242,.int .i64 t243] 31 (0,0)) (by (with_reducible repeat (first|refine kN ?_ _|refine kD ?_|refine kA ?_ _));refine blk_far ?_ NB244_250.out _;(with_reducible repeat (first|refine kN ?_ _|refine kD ?_|refine kA ?_ _));refine blk_far ?_ NB244_250.out _;(with_reducible repeat (first|refine kN ?_ _|refine kD ?_|refine kA ?_ _));refine blk_far ?_ NB244_250.out _;(with_reducible repeat (first|refine kN ?_ _|refine kD ?_|refine kA ?_ _));exact BK244.out) hb);have n9_:=Am (blk_below (g:=gb250) (o:=.cells #[.bool t245,.int .i64 t246,.slice Ao47 t247.length co47] 63 (0,0)) (by (with_reducible repeat (first|refine kN ?_ _|refine kD ?_|refine kA ?_ _));refine blk_put (cs:=#[.bool t245,.int .i64 t246,.slice none 0 0]) ?_ 2 _ rfl;(with_reducible repeat (first|refine kN ?_ _|refine kD ?_|refine kA ?_ _));refine blk_put (cs:=#[.bool t245,.int .i64 0,.slice none 0 0]) ?_ 1 _ rfl;(with_reducible repeat (first|refine kN ?_ _|refine kD ?_|refine kA ?_ _));refine blk_put (cs:=#[.bool false,.int .i64 0,.slice none 0 0]) ?_ 0 _ rfl;(with_reducible repeat (first|refine kN ?_ _|refine kD ?_|refine kA ?_ _));exact BK250.out) hb);have n10_:=Am (below_step (by repeat (first|(with_reducible first|exact HB.out|apply bA|apply bN|apply bD|refine bS ?_ GE218.out|refine bS ?_ GE234.out|refine bS ?_ GE244.out|refine bS ?_ GE250.out)|exact HB.out)) hb);clear HO222;clear HO225;clear HO233;clear HO237;clear HO240;clear HO249;clear BK218;clear BK234;clear BK244;clear BK250;clear HB;have HO222:=n0_;have HO225:=n1_;have HO233:=n2_;have HO237:=n3_;have HO240:=n4_;have HO249:=n5_;have BK218:=n6_;have BK234:=n7_;have BK244:=n8_;have BK250:=n9_;have HB:=n10_;clear n0_ n1_ n2_ n3_ n4_ n5_ n6_ n7_ n8_ n9_ n10_;(try clear hb);(try clear hb2);(try clear hk);(try clear hi)))
    have n0_:=Am (Kd.R_drew HO222.out)
    have n1_:=Am (Kd.R_drew HO225.out)
    have n2_:=Am (Kd.R_drew HO233.out)
    have n3_:=Am (Kd.R_drew HO237.out)
    have n4_:=Am (Kd.R_drew HO240.out)
    have n5_:=Am (Kd.R_drew HO249.out)
    have n6_:=Am (kD BK218.out)
    have n7_:=Am (kD BK234.out)
    have n8_:=Am (kD BK244.out)
    have n9_:=Am (kD BK250.out)
    have n10_:=Am (bD HB.out)
    clear HO222
    clear HO225
    clear HO233
    clear HO237
    clear HO240
    clear HO249
    clear BK218
    clear BK234
    clear BK244
    clear BK250
    clear HB
    have HO222:=n0_
    have HO225:=n1_
    have HO233:=n2_
    have HO237:=n3_
    have HO240:=n4_
    have HO249:=n5_
    have BK218:=n6_
    have BK234:=n7_
    have BK244:=n8_
    have BK250:=n9_
    have HB:=n10_
    clear n0_ n1_ n2_ n3_ n4_ n5_ n6_ n7_ n8_ n9_ n10_
    refine start_ (n:=5) (S:=fun w' => w'.cell? ⟨gb244,0,none⟩ = some (.slice Ao36 t235.length co36)∧w'.cell? ⟨gb244,1,none⟩ = some (.slice Ao40 t238.length co40)∧w'.cell? ⟨gb244,2,none⟩ = some (.int .i64 t241)∧w'.cell? ⟨gb244,3,none⟩ = some (.int .i64 t242)∧w'.cell? ⟨gb244,4,none⟩ = some (.int .i64 t243)∧w'.cell? ⟨gb218,0,none⟩ = some (.slice A0_0 l0_0.length c0_0)∧w'.cell? ⟨gb218,1,none⟩ = some (.slice A0_1 l0_1.length c0_1)∧w'.cell? ⟨gb218,2,none⟩ = some (.int .i64 a0_2)∧w'.cell? ⟨gb218,3,none⟩ = some (.int .i64 a0_3)∧w'.cell? ⟨gb218,4,none⟩ = some (.int .i64 a0_4)) (ds:=[]) #[false,false,false,false,false] (by kernel_rfl) rfl rfl ⟨(kC BK244.out 0).trans rfl,(kC BK244.out 1).trans rfl,(kC BK244.out 2).trans rfl,(kC BK244.out 3).trans rfl,(kC BK244.out 4).trans rfl,(kC BK218.out 0).trans rfl,(kC BK218.out 1).trans rfl,(kC BK218.out 2).trans rfl,(kC BK218.out 3).trans rfl,(kC BK218.out 4).trans rfl⟩ (fun hHeld => ?_)
    generalize w49.drew = w50 at HO222 HO225 HO233 HO237 HO240 HO249 BK218 BK234 BK244 BK250 HB hHeld ⊢
    refine take_ (i:=0) (N:=some 39) (v:=?_) (a':=?_) #[true,false,false,false,false] rfl rfl (by kernel_rfl) (fun _ _ _ h => h) (Or.inl ⟨by rfl,?_⟩) hHeld ?_ ?_
    rotate_left
    ·rintro w' ⟨s0,s1,s2,s3,s4,s5,s6,s7,s8,s9⟩
     go_simp
     with_reducible rfl
    rotate_left
    ·simp only [Act.put,pS]
     rfl
    refine take_ (i:=1) (N:=some 40) (v:=?_) (a':=?_) #[true,true,false,false,false] rfl rfl (by kernel_rfl) (fun _ _ _ h => h) (Or.inl ⟨by rfl,?_⟩) hHeld ?_ ?_
    rotate_left
    ·rintro w' ⟨s0,s1,s2,s3,s4,s5,s6,s7,s8,s9⟩
     go_simp
     with_reducible rfl
    rotate_left
    ·simp only [Act.put,pS]
     rfl
    refine one_ (i:=2) (N:=some 41) #[true,true,true,false,false] rfl rfl (by kernel_rfl) (by decide) (fun K hK => ?_)
    refine goes_ Try.func16 (by kernel_rfl) rfl #[.agg #[.slice A0_0 l0_0.length c0_0,.slice A0_1 l0_1.length c0_1,.int .i64 a0_2,.int .i64 a0_3,.int .i64 a0_4]] (by rfl) rfl rfl (by (try simp only [List.map_toArray,List.map_cons,List.map_nil]);first|done|rfl|(simp only [List.length_drop,List.length_take];rfl)) ?_
    with_reducible refine (laws_toProfile.calls k _ _ l0_0 _ _ l0_1 a0_2 a0_3 a0_4 t252 t255 t258 t259 t260 _ ?side1 ?side2 ?side3 ?side4 A16.out).mono ?_
    (case side1 => repeat (first|exact (Kd.C_below HR0_0.out HB.out)|(with_reducible refine Kd.C_alloc ?_ _)|(with_reducible refine Kd.C_drewN ?_ _)|(with_reducible refine Kd.C_drew ?_)))
    (case side2 => exact HC0_0.out)
    (case side3 => repeat (first|exact (Kd.C_below HR0_1.out HB.out)|(with_reducible refine Kd.C_alloc ?_ _)|(with_reducible refine Kd.C_drewN ?_ _)|(with_reducible refine Kd.C_drew ?_)))
    (case side4 => exact HC0_1.out)
    rintro e w51 ⟨v253,v256,rfl,ho0,ho1,hb⟩
    refine ⟨_,rfl,?_⟩
    have n0_:=Am (Kd.R_elder' (by (with_reducible repeat (first|apply Kd.R_alloc|apply Kd.R_drewN|apply Kd.R_drew));exact HO222.out) (Kd.R_base ho0) hb)
    have n1_:=Am (Kd.R_elder' (by (with_reducible repeat (first|apply Kd.R_alloc|apply Kd.R_drewN|apply Kd.R_drew));exact HO225.out) (Kd.R_base ho1) hb)
    have n2_:=Am (Kd.R_below (by (with_reducible repeat (first|apply Kd.R_alloc|apply Kd.R_drewN|apply Kd.R_drew));exact HO233.out) hb)
    have n3_:=Am (Kd.R_elder' (by (with_reducible repeat (first|apply Kd.R_alloc|apply Kd.R_drewN|apply Kd.R_drew));exact HO237.out) (Kd.R_base ho0) hb)
    have n4_:=Am (Kd.R_elder' (by (with_reducible repeat (first|apply Kd.R_alloc|apply Kd.R_drewN|apply Kd.R_drew));exact HO240.out) (Kd.R_base ho1) hb)
    have n5_:=Am (Kd.R_below (by (with_reducible repeat (first|apply Kd.R_alloc|apply Kd.R_drewN|apply Kd.R_drew));exact HO249.out) hb)
    have n6_:=Am (Kd.R_lower (Kd.R_new' (Kd.R_new' ho0 (Kd.R_lt (by (with_reducible repeat (first|apply Kd.R_alloc|apply Kd.R_drewN|apply Kd.R_drew));exact HO222.out))) (Kd.R_lt (by (with_reducible repeat (first|apply Kd.R_alloc|apply Kd.R_drewN|apply Kd.R_drew));exact HO237.out))) (below_size (by repeat (first|(with_reducible first|exact HB.out|apply bA|apply bN|apply bD|refine bS ?_ GE218.out|refine bS ?_ GE234.out|refine bS ?_ GE244.out|refine bS ?_ GE250.out)|exact HB.out))))
    have n7_:=Am (Kd.R_lower (Kd.R_new' (Kd.R_new' ho1 (Kd.R_lt (by (with_reducible repeat (first|apply Kd.R_alloc|apply Kd.R_drewN|apply Kd.R_drew));exact HO225.out))) (Kd.R_lt (by (with_reducible repeat (first|apply Kd.R_alloc|apply Kd.R_drewN|apply Kd.R_drew));exact HO240.out))) (below_size (by repeat (first|(with_reducible first|exact HB.out|apply bA|apply bN|apply bD|refine bS ?_ GE218.out|refine bS ?_ GE234.out|refine bS ?_ GE244.out|refine bS ?_ GE250.out)|exact HB.out))))
    have n8_:=Am (blk_below (g:=gb218) (o:=.cells #[.slice A0_0 l0_0.length c0_0,.slice A0_1 l0_1.length c0_1,.int .i64 a0_2,.int .i64 a0_3,.int .i64 a0_4] 25 (0,0)) (by (with_reducible repeat (first|refine kN ?_ _|refine kD ?_|refine kA ?_ _));exact BK218.out) hb)
    have n9_:=Am (blk_below (g:=gb234) (o:=.cells #[.bool t229,.int .i64 t230,.slice Ao32 t231.length co32] 63 (0,0)) (by (with_reducible repeat (first|refine kN ?_ _|refine kD ?_|refine kA ?_ _));exact BK234.out) hb)
    have n10_:=Am (blk_below (g:=gb244) (o:=.cells #[.slice Ao36 t235.length co36,.slice Ao40 t238.length co40,.int .i64 t241,.int .i64 t242,.int .i64 t243] 31 (0,0)) (by (with_reducible repeat (first|refine kN ?_ _|refine kD ?_|refine kA ?_ _));exact BK244.out) hb)
    have n11_:=Am (blk_below (g:=gb250) (o:=.cells #[.bool t245,.int .i64 t246,.slice Ao47 t247.length co47] 63 (0,0)) (by (with_reducible repeat (first|refine kN ?_ _|refine kD ?_|refine kA ?_ _));exact BK250.out) hb)
    have n12_:=Am (below_step (by repeat (first|(with_reducible first|exact HB.out|apply bA|apply bN|apply bD|refine bS ?_ GE218.out|refine bS ?_ GE234.out|refine bS ?_ GE244.out|refine bS ?_ GE250.out)|exact HB.out)) hb)
    clear HO222
    clear HO225
    clear HO233
    clear HO237
    clear HO240
    clear HO249
    clear BK218
    clear BK234
    clear BK244
    clear BK250
    clear HB
    have HO222:=n0_
    have HO225:=n1_
    have HO233:=n2_
    have HO237:=n3_
    have HO240:=n4_
    have HO249:=n5_
    have HO254:=n6_
    have HO257:=n7_
    have BK218:=n8_
    have BK234:=n9_
    have BK244:=n10_
    have BK250:=n11_
    have HB:=n12_
    clear n0_ n1_ n2_ n3_ n4_ n5_ n6_ n7_ n8_ n9_ n10_ n11_ n12_
    (try clear hb)
    (try clear hb2)
    (try clear hk)
    (try clear hi)
    (try clear ho0)
    (try clear ho1)
    obtain ⟨Ao52,co52,eo52⟩:=Kd.R_slice HO254.out
    (first|subst eo52|(injection eo52 with f1_ f2_ f3_;have f4_:=f1_.symm;have f5_:=f3_.symm;clear f1_ f2_ f3_;subst f4_;subst f5_))
    obtain ⟨Ao53,co53,eo53⟩:=Kd.R_slice HO257.out
    (first|subst eo53|(injection eo53 with f1_ f2_ f3_;have f4_:=f1_.symm;have f5_:=f3_.symm;clear f1_ f2_ f3_;subst f4_;subst f5_))
    refine hK.out _ _ ⟨(kC BK244.out 0).trans rfl,(kC BK244.out 1).trans rfl,(kC BK244.out 2).trans rfl,(kC BK244.out 3).trans rfl,(kC BK244.out 4).trans rfl,(kC BK218.out 0).trans rfl,(kC BK218.out 1).trans rfl,(kC BK218.out 2).trans rfl,(kC BK218.out 3).trans rfl,(kC BK218.out 4).trans rfl⟩ (fun hHeld => ?_)
    clear hK K
    refine norm_ (a':=?_) ?_ ?_
    rotate_left
    ·show Act.put _ (some 41) _ = _
     simp only [Act.put,pS]
     rfl
    refine one_ (i:=3) (N:=some 42) #[true,true,true,true,false] rfl rfl (by kernel_rfl) (by decide) (fun K hK => ?_)
    refine goes_ Try.func18 (by kernel_rfl) rfl #[.agg #[.slice Ao36 t235.length co36,.slice Ao40 t238.length co40,.int .i64 t241,.int .i64 t242,.int .i64 t243],.agg #[.slice Ao52 t252.length co52,.slice Ao53 t255.length co53,.int .i64 t258,.int .i64 t259,.int .i64 t260]] (by rfl) rfl rfl (by (try simp only [List.map_toArray,List.map_cons,List.map_nil]);first|done|rfl|(simp only [List.length_drop,List.length_take];rfl)) ?_
    with_reducible refine (laws_eqProfile.calls k _ _ t235 _ _ t238 t241 t242 t243 _ _ t252 _ _ t255 t258 t259 t260 true _ ?side1 ?side2 ?side3 ?side4 ?side5 ?side6 ?side7 ?side8 A17.out).mono ?_
    (case side1 => repeat (first|exact (Kd.R_reads' HO237.out).2.2|(with_reducible refine Kd.C_alloc ?_ _)|(with_reducible refine Kd.C_drewN ?_ _)|(with_reducible refine Kd.C_drew ?_)))
    (case side2 => exact (Kd.R_reads' HO237.out).2.1)
    (case side3 => repeat (first|exact (Kd.R_reads' HO240.out).2.2|(with_reducible refine Kd.C_alloc ?_ _)|(with_reducible refine Kd.C_drewN ?_ _)|(with_reducible refine Kd.C_drew ?_)))
    (case side4 => exact (Kd.R_reads' HO240.out).2.1)
    (case side5 => repeat (first|exact (Kd.R_reads' HO254.out).2.2|(with_reducible refine Kd.C_alloc ?_ _)|(with_reducible refine Kd.C_drewN ?_ _)|(with_reducible refine Kd.C_drew ?_)))
    (case side6 => exact (Kd.R_reads' HO254.out).2.1)
    (case side7 => repeat (first|exact (Kd.R_reads' HO257.out).2.2|(with_reducible refine Kd.C_alloc ?_ _)|(with_reducible refine Kd.C_drewN ?_ _)|(with_reducible refine Kd.C_drew ?_)))
    (case side8 => exact (Kd.R_reads' HO257.out).2.1)
    rintro e w54 ⟨rfl,hb⟩
    refine ⟨_,rfl,?_⟩
    have n0_:=Am (Kd.R_below (by (with_reducible repeat (first|apply Kd.R_alloc|apply Kd.R_drewN|apply Kd.R_drew));exact HO222.out) hb)
    have n1_:=Am (Kd.R_below (by (with_reducible repeat (first|apply Kd.R_alloc|apply Kd.R_drewN|apply Kd.R_drew));exact HO225.out) hb)
    have n2_:=Am (Kd.R_below (by (with_reducible repeat (first|apply Kd.R_alloc|apply Kd.R_drewN|apply Kd.R_drew));exact HO233.out) hb)
    have n3_:=Am (Kd.R_below (by (with_reducible repeat (first|apply Kd.R_alloc|apply Kd.R_drewN|apply Kd.R_drew));exact HO237.out) hb)
    have n4_:=Am (Kd.R_below (by (with_reducible repeat (first|apply Kd.R_alloc|apply Kd.R_drewN|apply Kd.R_drew));exact HO240.out) hb)
    have n5_:=Am (Kd.R_below (by (with_reducible repeat (first|apply Kd.R_alloc|apply Kd.R_drewN|apply Kd.R_drew));exact HO249.out) hb)
    have n6_:=Am (Kd.R_below (by (with_reducible repeat (first|apply Kd.R_alloc|apply Kd.R_drewN|apply Kd.R_drew));exact HO254.out) hb)
    have n7_:=Am (Kd.R_below (by (with_reducible repeat (first|apply Kd.R_alloc|apply Kd.R_drewN|apply Kd.R_drew));exact HO257.out) hb)
    have n8_:=Am (blk_below (g:=gb218) (o:=.cells #[.slice A0_0 l0_0.length c0_0,.slice A0_1 l0_1.length c0_1,.int .i64 a0_2,.int .i64 a0_3,.int .i64 a0_4] 25 (0,0)) (by (with_reducible repeat (first|refine kN ?_ _|refine kD ?_|refine kA ?_ _));exact BK218.out) hb)
    have n9_:=Am (blk_below (g:=gb234) (o:=.cells #[.bool t229,.int .i64 t230,.slice Ao32 t231.length co32] 63 (0,0)) (by (with_reducible repeat (first|refine kN ?_ _|refine kD ?_|refine kA ?_ _));exact BK234.out) hb)
    have n10_:=Am (blk_below (g:=gb244) (o:=.cells #[.slice Ao36 t235.length co36,.slice Ao40 t238.length co40,.int .i64 t241,.int .i64 t242,.int .i64 t243] 31 (0,0)) (by (with_reducible repeat (first|refine kN ?_ _|refine kD ?_|refine kA ?_ _));exact BK244.out) hb)
    have n11_:=Am (blk_below (g:=gb250) (o:=.cells #[.bool t245,.int .i64 t246,.slice Ao47 t247.length co47] 63 (0,0)) (by (with_reducible repeat (first|refine kN ?_ _|refine kD ?_|refine kA ?_ _));exact BK250.out) hb)
    have n12_:=Am (below_step (by repeat (first|(with_reducible first|exact HB.out|apply bA|apply bN|apply bD|refine bS ?_ GE218.out|refine bS ?_ GE234.out|refine bS ?_ GE244.out|refine bS ?_ GE250.out)|exact HB.out)) hb)
    clear HO222
    clear HO225
    clear HO233
    clear HO237
    clear HO240
    clear HO249
    clear HO254
    clear HO257
    clear BK218
    clear BK234
    clear BK244
    clear BK250
    clear HB
    have HO222:=n0_
    have HO225:=n1_
    have HO233:=n2_
    have HO237:=n3_
    have HO240:=n4_
    have HO249:=n5_
    have HO254:=n6_
    have HO257:=n7_
    have BK218:=n8_
    have BK234:=n9_
    have BK244:=n10_
    have BK250:=n11_
    have HB:=n12_
    clear n0_ n1_ n2_ n3_ n4_ n5_ n6_ n7_ n8_ n9_ n10_ n11_ n12_
    (try clear hb)
    (try clear hb2)
    (try clear hk)
    (try clear hi)
    refine hK.out _ _ ⟨(kC BK244.out 0).trans rfl,(kC BK244.out 1).trans rfl,(kC BK244.out 2).trans rfl,(kC BK244.out 3).trans rfl,(kC BK244.out 4).trans rfl,(kC BK218.out 0).trans rfl,(kC BK218.out 1).trans rfl,(kC BK218.out 2).trans rfl,(kC BK218.out 3).trans rfl,(kC BK218.out 4).trans rfl⟩ (fun hHeld => ?_)
    clear hK K
    refine norm_ (a':=?_) ?_ ?_
    rotate_left
    ·show Act.put _ (some 42) _ = _
     simp only [Act.put,pS]
     rfl
    refine pure_ (i:=4) (N:=some 43) (v:=?_) (a':=?_) #[true,true,true,true,true] rfl rfl (by kernel_rfl) (fun _ _ _ h => h) (Or.inl ⟨by rfl,?_⟩) ?_ ?_
    rotate_left
    ·intro w'
     go_simp
     with_reducible rfl
    rotate_left
    ·simp only [Act.put,pS]
     rfl
    refine done_ (by kernel_rfl) ?_
    have hcz55_0 : w54.cell? ⟨gb244,0,none⟩ = some (.slice Ao36 t235.length co36):=(kC BK244.out 0).trans rfl
    have hcz55_1 : w54.cell? ⟨gb244,1,none⟩ = some (.slice Ao40 t238.length co40):=(kC BK244.out 1).trans rfl
    have hcz55_2 : w54.cell? ⟨gb244,2,none⟩ = some (.int .i64 t241):=(kC BK244.out 2).trans rfl
    have hcz55_3 : w54.cell? ⟨gb244,3,none⟩ = some (.int .i64 t242):=(kC BK244.out 3).trans rfl
    have hcz55_4 : w54.cell? ⟨gb244,4,none⟩ = some (.int .i64 t243):=(kC BK244.out 4).trans rfl
    have hfz55_0:=kF BK244.out 0
    have hfz55_1:=kF BK244.out 1
    have hfz55_2:=kF BK244.out 2
    have hfz55_3:=kF BK244.out 3
    have hfz55_4:=kF BK244.out 4
    go_upto_region 14 with (first|((with_reducible refine gate_callee (f:=41) rfl ?_);refine goesL_ (some 46) rfl rfl Try.func41 (by kernel_rfl) rfl #[.agg #[.slice Ao36 t235.length co36,.slice Ao40 t238.length co40,.int .i64 t241,.int .i64 t242,.int .i64 t243],.int .i64 1] rfl (by (try simp only [List.map_toArray,List.map_cons,List.map_nil]);first|done|rfl|(simp only [List.length_drop,List.length_take];rfl)) ?_;(with_reducible refine (laws_markProfile.calls k (fun k_ => some k_ = (.slice Ao36 t235.length co36 : Value).ownBlock) (.slice Ao36 t235.length co36) t235 (fun k_ => some k_ = (.slice Ao40 t238.length co40 : Value).ownBlock) (.slice Ao40 t238.length co40) t238 t241 t242 t243 1 t262 t263 t264 w _ ?side1 ?side2 ?side3 A19.out).mono ?_);(case side1 => repeat (first|(with_reducible first|exact HB.out|apply bA|apply bN|apply bD|refine bS ?_ GE218.out|refine bS ?_ GE234.out|refine bS ?_ GE244.out|refine bS ?_ GE250.out)|exact HB.out));(case side2 => exact Kd.R_tight rfl HO237.out);(case side3 => exact Kd.R_tight rfl HO240.out);rintro e w56 ⟨rfl,hy0,hy1,hb,hkp⟩;refine ⟨_,rfl,?_⟩;have n0_:=Am (blk_kept (by (with_reducible repeat (first|refine kN ?_ _|refine kD ?_|refine kA ?_ _));exact BK218.out) hkp (fun hs_ => Or.elim hs_ (fun e_ => (fun e_ => (Kd.R_ne HO237.out BK218.out (by decide)) e_) e_) (fun e_ => (fun e_ => (Kd.R_ne HO240.out BK218.out (by decide)) e_) e_)));have n1_:=Am (Kd.R_mono (ok':=fun k_ => some k_ ≠ (.slice Ao36 t235.length co36 : Value).ownBlock∧some k_ ≠ (.slice Ao52 t252.length co52 : Value).ownBlock) (Kd.R_keptB ((Kd.R_apart' HO222.out (Kd.R_typed HO240.out) (by decide))) hkp (fun k_ hk_ hs_ => Or.elim hs_ (fun e_ => (hk_.1.1.2) e_) (fun e_ => (hk_.2) e_))) (fun k_ hk_ => ⟨hk_.1.1.1.2,hk_.1.1.2⟩));have n2_:=Am (Kd.R_mono (ok':=fun k_ => some k_ ≠ (.slice Ao40 t238.length co40 : Value).ownBlock∧some k_ ≠ (.slice Ao53 t255.length co53 : Value).ownBlock) (Kd.R_keptB ((Kd.R_apart' HO225.out (Kd.R_typed HO237.out) (by decide))) hkp (fun k_ hk_ hs_ => Or.elim hs_ (fun e_ => (hk_.2) e_) (fun e_ => (hk_.1.1.2) e_))) (fun k_ hk_ => ⟨hk_.1.1.1.2,hk_.1.1.2⟩));have n3_:=Am (Kd.R_mono (ok':=fun k_ => some k_ ≠ (.slice Ao47 t247.length co47 : Value).ownBlock) (Kd.R_keptB ((Kd.R_apart' (Kd.R_apart' HO233.out (Kd.R_typed HO237.out) (by decide)) (Kd.R_typed HO240.out) (by decide))) hkp (fun k_ hk_ hs_ => Or.elim hs_ (fun e_ => (hk_.1.2) e_) (fun e_ => (hk_.2) e_))) (fun k_ hk_ => hk_.1.1.1.2));have n4_:=Am (blk_kept (by (with_reducible repeat (first|refine kN ?_ _|refine kD ?_|refine kA ?_ _));exact BK234.out) hkp (fun hs_ => Or.elim hs_ (fun e_ => (fun e_ => (Kd.R_ne HO237.out BK234.out (by decide)) e_) e_) (fun e_ => (fun e_ => (Kd.R_ne HO240.out BK234.out (by decide)) e_) e_)));have n5_:=Am (Kd.R_reok rfl hy0 (fun k_ e_ => HO237.out.1 k_ e_));have n6_:=Am (Kd.R_reok rfl hy1 (fun k_ e_ => HO240.out.1 k_ e_));have n7_:=Am (blk_kept (by (with_reducible repeat (first|refine kN ?_ _|refine kD ?_|refine kA ?_ _));exact BK244.out) hkp (fun hs_ => Or.elim hs_ (fun e_ => (fun e_ => (Kd.R_ne HO237.out BK244.out (by decide)) e_) e_) (fun e_ => (fun e_ => (Kd.R_ne HO240.out BK244.out (by decide)) e_) e_)));have n8_:=Am (Kd.R_mono (ok':=fun k_ => some k_ ≠ (.slice Ao32 t231.length co32 : Value).ownBlock) (Kd.R_keptB ((Kd.R_apart' (Kd.R_apart' HO249.out (Kd.R_typed HO237.out) (by decide)) (Kd.R_typed HO240.out) (by decide))) hkp (fun k_ hk_ hs_ => Or.elim hs_ (fun e_ => (hk_.1.2) e_) (fun e_ => (hk_.2) e_))) (fun k_ hk_ => hk_.1.1.1.2));have n9_:=Am (blk_kept (by (with_reducible repeat (first|refine kN ?_ _|refine kD ?_|refine kA ?_ _));exact BK250.out) hkp (fun hs_ => Or.elim hs_ (fun e_ => (fun e_ => (Kd.R_ne HO237.out BK250.out (by decide)) e_) e_) (fun e_ => (fun e_ => (Kd.R_ne HO240.out BK250.out (by decide)) e_) e_)));have n10_:=Am (Kd.R_mono (ok':=fun k_ => some k_ ≠ (.slice Ao26 t220.length co26 : Value).ownBlock∧some k_ ≠ (.slice Ao36 t235.length co36 : Value).ownBlock) (Kd.R_keptB ((Kd.R_apart' HO254.out (Kd.R_typed HO240.out) (by decide))) hkp (fun k_ hk_ hs_ => Or.elim hs_ (fun e_ => (hk_.1.2) e_) (fun e_ => (hk_.2) e_))) (fun k_ hk_ => ⟨hk_.1.1.1.2,hk_.1.1.2⟩));have n11_:=Am (Kd.R_mono (ok':=fun k_ => some k_ ≠ (.slice Ao27 t223.length co27 : Value).ownBlock∧some k_ ≠ (.slice Ao40 t238.length co40 : Value).ownBlock) (Kd.R_keptB ((Kd.R_apart' HO257.out (Kd.R_typed HO237.out) (by decide))) hkp (fun k_ hk_ hs_ => Or.elim hs_ (fun e_ => (hk_.2) e_) (fun e_ => (hk_.1.2) e_))) (fun k_ hk_ => ⟨hk_.1.1.1.2,hk_.1.1.2⟩));have n12_:=Am (hb);clear BK218;clear HO222;clear HO225;clear HO233;clear BK234;clear HO237;clear HO240;clear BK244;clear HO249;clear BK250;clear HO254;clear HO257;clear HB;have BK218:=n0_;have HO222:=n1_;have HO225:=n2_;have HO233:=n3_;have BK234:=n4_;have HO237:=n5_;have HO240:=n6_;have BK244:=n7_;have HO249:=n8_;have BK250:=n9_;have HO254:=n10_;have HO257:=n11_;have HB:=n12_;clear n0_ n1_ n2_ n3_ n4_ n5_ n6_ n7_ n8_ n9_ n10_ n11_ n12_;(try clear hb);(try clear hkp);(try clear hy0);(try clear hy1)))
    (try simp only [Act.put,List.setIfInBounds_toArray,List.set_cons_zero,List.set_cons_succ])
    go_cut [54] (fun v54 wc => ∃ (kq : Nat) (x54_19 : Bool),v54 = .bool x54_19∧As (laws_FnExactFastest.j0 kq a1 a2 a3 x54_19 l0_0 l0_1 a0_2 a0_3 a0_4 t229 t230 t231 t245 t246 t247 = some r)∧As (kq ≤ k)∧As (Kd.R (Kd.int .i64) 3 wc w.heap.size (fun k_ => some k_ ≠ ((.slice Ao47 t247.length co47) : Value).ownBlock) (.slice Ao32 t231.length co32) t231)∧As (Kd.R k71 71 wc w.heap.size (fun _ => True) (.slice Ao36 t235.length co36) t263)∧As (Kd.R k75 75 wc w.heap.size (fun _ => True) (.slice Ao40 t238.length co40) t264)∧As (Kd.R (Kd.int .i64) 3 wc w.heap.size (fun k_ => some k_ ≠ ((.slice Ao32 t231.length co32) : Value).ownBlock) (.slice Ao47 t247.length co47) t247)∧As (wc.heap[gb218]? = some (.cells #[(.slice A0_0 l0_0.length c0_0),(.slice A0_1 l0_1.length c0_1),.int .i64 a0_2,.int .i64 a0_3,.int .i64 a0_4] 25 (0,0)))∧As (wc.heap[gb234]? = some (.cells #[.bool t229,.int .i64 t230,(.slice Ao32 t231.length co32)] 63 (0,0)))∧As (wc.heap[gb244]? = some (.cells #[(.slice Ao36 t235.length co36),(.slice Ao40 t238.length co40),.int .i64 t241,.int .i64 t242,.int .i64 t243] 31 (0,0)))∧As (wc.heap[gb250]? = some (.cells #[.bool t245,.int .i64 t246,(.slice Ao47 t247.length co47)] 63 (0,0)))∧As (Below w.heap.size w wc))
    case first =>
     have H:=HC20.out
     clear HC20
     by_cases c57 : t262 < 0
     ·rw [if_pos c57] at H
      have c57b0 : decide (t262 < 0) = true:=decide_eq_true c57
      clear c57
      (first|rw [c57b0]|(simp only [i64_w,i32_w];rw [c57b0])|skip)
      exact absurd H (by rw [hrt.out];apply laws_FnExactFastest.j0_no)
     ·rw [if_neg c57] at H
      have c57b0 : decide (t262 < 0) = false:=decide_eq_false c57
      clear c57
      (first|rw [c57b0]|(simp only [i64_w,i32_w];rw [c57b0])|skip)
      replace H:=Option.bind_eq_some_iff.mp H
      obtain ⟨t265,A580,H⟩:=H
      replace H : (laws_FnExactFastest.j0 k a1 a2 a3 (!t265) l0_0 l0_1 a0_2 a0_3 a0_4 t229 t230 t231 t245 t246 t247) = some r:=H
      have A58:=Am A580
      clear A580
      have H':=Am H
      clear H
      have hnb59:=NB250_218.out
      have hnc59:=NB218_250.out
      have hnb60:=NB250_234.out
      have hnc60:=NB234_250.out
      have hnb61:=NB250_244.out
      have hnc61:=NB244_250.out
      have hcz62_0 : w56.cell? ⟨gb250,0,none⟩ = some (.bool t245):=(kC BK250.out 0).trans rfl
      have hcz62_1 : w56.cell? ⟨gb250,1,none⟩ = some (.int .i64 t246):=(kC BK250.out 1).trans rfl
      have hcz62_2 : w56.cell? ⟨gb250,2,none⟩ = some (.slice Ao47 t247.length co47):=(kC BK250.out 2).trans rfl
      have hfz62_0:=kF BK250.out 0
      have hfz62_1:=kF BK250.out 1
      have hfz62_2:=kF BK250.out 2
      have hnb63:=NB234_218.out
      have hnc63:=NB218_234.out
      have hnb64:=NB234_244.out
      have hnc64:=NB244_234.out
      have hcz65_0 : w56.cell? ⟨gb234,0,none⟩ = some (.bool t229):=(kC BK234.out 0).trans rfl
      have hcz65_1 : w56.cell? ⟨gb234,1,none⟩ = some (.int .i64 t230):=(kC BK234.out 1).trans rfl
      have hcz65_2 : w56.cell? ⟨gb234,2,none⟩ = some (.slice Ao32 t231.length co32):=(kC BK234.out 2).trans rfl
      have hfz65_0:=kF BK234.out 0
      have hfz65_1:=kF BK234.out 1
      have hfz65_2:=kF BK234.out 2
      go_wp2_with (first|(go_at_call 52;(with_reducible refine (laws_eqRun.calls k t245 t246 _ _ t247 t229 t230 _ _ t231 t265 _ ?side1 ?side2 ?side3 ?side4 A58.out).mono ?_);(case side1 => repeat (first|exact (Kd.R_reads' HO249.out).2.2|(with_reducible refine Kd.C_alloc ?_ _)|(with_reducible refine Kd.C_drewN ?_ _)|(with_reducible refine Kd.C_drew ?_)));(case side2 => exact (Kd.R_reads' HO249.out).2.1);(case side3 => repeat (first|exact (Kd.R_reads' HO233.out).2.2|(with_reducible refine Kd.C_alloc ?_ _)|(with_reducible refine Kd.C_drewN ?_ _)|(with_reducible refine Kd.C_drew ?_)));(case side4 => exact (Kd.R_reads' HO233.out).2.1);rintro e w66 ⟨rfl,hb⟩;have n0_:=Am (Kd.R_below (by (with_reducible repeat (first|apply Kd.R_alloc|apply Kd.R_drewN|apply Kd.R_drew));exact HO222.out) hb);have n1_:=Am (Kd.R_below (by (with_reducible repeat (first|apply Kd.R_alloc|apply Kd.R_drewN|apply Kd.R_drew));exact HO225.out) hb);have n2_:=Am (Kd.R_below (by (with_reducible repeat (first|apply Kd.R_alloc|apply Kd.R_drewN|apply Kd.R_drew));exact HO233.out) hb);have n3_:=Am (Kd.R_below (by (with_reducible repeat (first|apply Kd.R_alloc|apply Kd.R_drewN|apply Kd.R_drew));exact HO237.out) hb);have n4_:=Am (Kd.R_below (by (with_reducible repeat (first|apply Kd.R_alloc|apply Kd.R_drewN|apply Kd.R_drew));exact HO240.out) hb);have n5_:=Am (Kd.R_below (by (with_reducible repeat (first|apply Kd.R_alloc|apply Kd.R_drewN|apply Kd.R_drew));exact HO249.out) hb);have n6_:=Am (Kd.R_below (by (with_reducible repeat (first|apply Kd.R_alloc|apply Kd.R_drewN|apply Kd.R_drew));exact HO254.out) hb);have n7_:=Am (Kd.R_below (by (with_reducible repeat (first|apply Kd.R_alloc|apply Kd.R_drewN|apply Kd.R_drew));exact HO257.out) hb);have n8_:=Am (blk_below (g:=gb218) (o:=.cells #[.slice A0_0 l0_0.length c0_0,.slice A0_1 l0_1.length c0_1,.int .i64 a0_2,.int .i64 a0_3,.int .i64 a0_4] 25 (0,0)) (by (with_reducible repeat (first|refine kN ?_ _|refine kD ?_|refine kA ?_ _));exact BK218.out) hb);have n9_:=Am (blk_below (g:=gb234) (o:=.cells #[.bool t229,.int .i64 t230,.slice Ao32 t231.length co32] 63 (0,0)) (by (with_reducible repeat (first|refine kN ?_ _|refine kD ?_|refine kA ?_ _));exact BK234.out) hb);have n10_:=Am (blk_below (g:=gb244) (o:=.cells #[.slice Ao36 t235.length co36,.slice Ao40 t238.length co40,.int .i64 t241,.int .i64 t242,.int .i64 t243] 31 (0,0)) (by (with_reducible repeat (first|refine kN ?_ _|refine kD ?_|refine kA ?_ _));exact BK244.out) hb);have n11_:=Am (blk_below (g:=gb250) (o:=.cells #[.bool t245,.int .i64 t246,.slice Ao47 t247.length co47] 63 (0,0)) (by (with_reducible repeat (first|refine kN ?_ _|refine kD ?_|refine kA ?_ _));exact BK250.out) hb);have n12_:=Am (below_step (by repeat (first|(with_reducible first|exact HB.out|apply bA|apply bN|apply bD|refine bS ?_ GE218.out|refine bS ?_ GE234.out|refine bS ?_ GE244.out|refine bS ?_ GE250.out)|exact HB.out)) hb);clear HO222;clear HO225;clear HO233;clear HO237;clear HO240;clear HO249;clear HO254;clear HO257;clear BK218;clear BK234;clear BK244;clear BK250;clear HB;have HO222:=n0_;have HO225:=n1_;have HO233:=n2_;have HO237:=n3_;have HO240:=n4_;have HO249:=n5_;have HO254:=n6_;have HO257:=n7_;have BK218:=n8_;have BK234:=n9_;have BK244:=n10_;have BK250:=n11_;have HB:=n12_;clear n0_ n1_ n2_ n3_ n4_ n5_ n6_ n7_ n8_ n9_ n10_ n11_ n12_;(try clear hb);(try clear hb2);(try clear hk);(try clear hi)))
      go_meet
      case rel => exact ⟨_,(!t265),(by first|rfl|(simp;done)|(simp [*];done)),H',⟨by first|omega|exact Nat.le_refl _⟩,⟨by (with_reducible repeat (first|apply Kd.R_alloc|apply Kd.R_drewN|apply Kd.R_drew));exact HO233.out⟩,⟨by (with_reducible repeat (first|apply Kd.R_alloc|apply Kd.R_drewN|apply Kd.R_drew));exact Kd.R_mono HO237.out (fun _ hk => trivial)⟩,⟨by (with_reducible repeat (first|apply Kd.R_alloc|apply Kd.R_drewN|apply Kd.R_drew));exact Kd.R_mono HO240.out (fun _ hk => trivial)⟩,⟨by (with_reducible repeat (first|apply Kd.R_alloc|apply Kd.R_drewN|apply Kd.R_drew));exact HO249.out⟩,⟨by (with_reducible repeat (first|refine kN ?_ _|refine kD ?_|refine kA ?_ _));exact BK218.out⟩,⟨by (with_reducible repeat (first|refine kN ?_ _|refine kD ?_|refine kA ?_ _));exact BK234.out⟩,⟨by (with_reducible repeat (first|refine kN ?_ _|refine kD ?_|refine kA ?_ _));exact BK244.out⟩,⟨by (with_reducible repeat (first|refine kN ?_ _|refine kD ?_|refine kA ?_ _));exact BK250.out⟩,⟨by repeat (first|(with_reducible first|exact HB.out|apply bA|apply bN|apply bD|refine bS ?_ GE218.out|refine bS ?_ GE234.out|refine bS ?_ GE244.out|refine bS ?_ GE250.out)|exact HB.out)⟩⟩
    case rest =>
     clear HC20
     try clear c1
     try clear p2
     try clear c3
     try clear c4
     try clear c5
     try clear c6
     try clear c6b0
     try clear c13
     try clear c14
     try clear c15
     try clear c16
     try clear c18
     try clear c30
     try clear c37
     try clear c38
     try clear c41
     try clear c43
     try clear c44
     try clear c45
     try clear c50
     try clear c51
     try clear c52
     try clear c57
     try clear c57b0
     try clear c59
     try clear c60
     try clear c61
     try clear c63
     try clear c64
     try clear hcz22_0
     try clear hcz22_1
     try clear hcz22_2
     try clear hcz22_3
     try clear hcz22_4
     try clear hcz24_0
     try clear hcz24_1
     try clear hcz24_2
     try clear hcz24_3
     try clear hcz24_4
     try clear hcz31_0
     try clear hcz31_1
     try clear hcz31_2
     try clear hcz33_0
     try clear hcz33_1
     try clear hcz33_2
     try clear hcz33_3
     try clear hcz33_4
     try clear hcz39_0
     try clear hcz39_1
     try clear hcz39_2
     try clear hcz39_3
     try clear hcz39_4
     try clear hcz46_0
     try clear hcz46_1
     try clear hcz46_2
     try clear hcz48_0
     try clear hcz48_1
     try clear hcz48_2
     try clear hcz55_0
     try clear hcz55_1
     try clear hcz55_2
     try clear hcz55_3
     try clear hcz55_4
     try clear hcz62_0
     try clear hcz62_1
     try clear hcz62_2
     try clear hcz65_0
     try clear hcz65_1
     try clear hcz65_2
     try clear hcz8_0
     try clear hcz8_1
     try clear hcz8_2
     try clear hcz8_3
     try clear hcz8_4
     try clear hfz22_0
     try clear hfz22_1
     try clear hfz22_2
     try clear hfz22_3
     try clear hfz22_4
     try clear hfz24_0
     try clear hfz24_1
     try clear hfz24_2
     try clear hfz24_3
     try clear hfz24_4
     try clear hfz31_0
     try clear hfz31_1
     try clear hfz31_2
     try clear hfz33_0
     try clear hfz33_1
     try clear hfz33_2
     try clear hfz33_3
     try clear hfz33_4
     try clear hfz39_0
     try clear hfz39_1
     try clear hfz39_2
     try clear hfz39_3
     try clear hfz39_4
     try clear hfz46_0
     try clear hfz46_1
     try clear hfz46_2
     try clear hfz48_0
     try clear hfz48_1
     try clear hfz48_2
     try clear hfz55_0
     try clear hfz55_1
     try clear hfz55_2
     try clear hfz55_3
     try clear hfz55_4
     try clear hfz62_0
     try clear hfz62_1
     try clear hfz62_2
     try clear hfz65_0
     try clear hfz65_1
     try clear hfz65_2
     try clear hfz8_0
     try clear hfz8_1
     try clear hfz8_2
     try clear hfz8_3
     try clear hfz8_4
     obtain ⟨kq,x54_19,rfl,HA,HJ19,HO_235002,HO_245000,HO_245001,HO_251002,BK218,BK234,BK244,BK250,HB⟩:=hcut
     have hl245000_19:=(Kd.R_reads' HO_245000.out).1
     rw [hl245000_19] at HO_245000
     (try simp only [hl245000_19])
     (try simp only [hl245000_19] at BK218)
     (try simp only [hl245000_19] at BK234)
     (try simp only [hl245000_19] at BK244)
     (try simp only [hl245000_19] at BK250)
     (try simp only [hl245000_19] at HO_235002)
     (try simp only [hl245000_19] at HO_245001)
     (try simp only [hl245000_19] at HO_251002)
     have hl245001_19:=(Kd.R_reads' HO_245001.out).1
     rw [hl245001_19] at HO_245001
     (try simp only [hl245001_19])
     (try simp only [hl245001_19] at BK218)
     (try simp only [hl245001_19] at BK234)
     (try simp only [hl245001_19] at BK244)
     (try simp only [hl245001_19] at BK250)
     (try simp only [hl245001_19] at HO_235002)
     (try simp only [hl245001_19] at HO_245000)
     (try simp only [hl245001_19] at HO_251002)
     cases kq with
     | zero => exact absurd HA.out (by simp [laws_FnExactFastest.j0])
     | succ kj19 =>
      have H:=HA.out
      clear HA
      simp only [laws_FnExactFastest.j0] at H
      by_cases c67 : x54_19 = true
      ·subst c67
       have H1 : (some false) = some r:=by rw [if_pos rfl] at H;exact H
       clear H
       have H:=H1
       clear H1
       exact absurd H (by rw [hrt.out];simp)
      ·replace c67:=Bool.eq_false_iff.mpr c67
       subst c67
       have H1 : ((laws_markRun.f kj19 t245 t246 t247 1).bind fun bt266 => ((laws_heldRun.f kj19 t245 t246 bt266.2 1).bind fun t268 => (if t268 < 0 then (some false) else (if t268 = bt266.1 then ((laws_toProfile.f kj19 l0_0 l0_1 a0_2 a0_3 a0_4).bind fun bt269 => ((impl_Fastest.f kj19 bt269.1 bt269.2.1 bt269.2.2.1 bt269.2.2.2.1 bt269.2.2.2.2 a1 a2 a3).bind fun bt278 => ((laws_eqRun.f kj19 bt278.1 bt278.2.1 bt278.2.2 t229 t230 t231).bind fun t284 => (if t284 = true then ((laws_heldRun.f kj19 t245 t246 bt266.2 1).bind fun t285 => (if t285 < 0 then (some false) else (if t285 = bt266.1 then (some true) else (some false)))) else (some false))))) else (some false))))) = some r:=by rw [if_neg (show ¬ (false = true) by decide)] at H;exact H
       clear H
       have H:=H1
       clear H1
       replace H:=Option.bind_eq_some_iff.mp H
       obtain ⟨⟨t266,t267⟩,A680,H⟩:=H
       replace H : ((laws_heldRun.f kj19 t245 t246 t267 1).bind fun t268 => (if t268 < 0 then (some false) else (if t268 = t266 then ((laws_toProfile.f kj19 l0_0 l0_1 a0_2 a0_3 a0_4).bind fun bt269 => ((impl_Fastest.f kj19 bt269.1 bt269.2.1 bt269.2.2.1 bt269.2.2.2.1 bt269.2.2.2.2 a1 a2 a3).bind fun bt278 => ((laws_eqRun.f kj19 bt278.1 bt278.2.1 bt278.2.2 t229 t230 t231).bind fun t284 => (if t284 = true then ((laws_heldRun.f kj19 t245 t246 t267 1).bind fun t285 => (if t285 < 0 then (some false) else (if t285 = t266 then (some true) else (some false)))) else (some false))))) else (some false)))) = some r:=H
       have A68:=Am A680
       clear A680
       replace H:=Option.bind_eq_some_iff.mp H
       obtain ⟨t268,A690,H⟩:=H
       replace H : (if t268 < 0 then (some false) else (if t268 = t266 then ((laws_toProfile.f kj19 l0_0 l0_1 a0_2 a0_3 a0_4).bind fun bt269 => ((impl_Fastest.f kj19 bt269.1 bt269.2.1 bt269.2.2.1 bt269.2.2.2.1 bt269.2.2.2.2 a1 a2 a3).bind fun bt278 => ((laws_eqRun.f kj19 bt278.1 bt278.2.1 bt278.2.2 t229 t230 t231).bind fun t284 => (if t284 = true then ((laws_heldRun.f kj19 t245 t246 t267 1).bind fun t285 => (if t285 < 0 then (some false) else (if t285 = t266 then (some true) else (some false)))) else (some false))))) else (some false))) = some r:=H
       have A69:=Am A690
       clear A690
       by_cases c70 : t268 < 0
       ·rw [if_pos c70] at H
        have c70b0 : decide (t268 < 0) = true:=decide_eq_true c70
        clear c70
        exact absurd H (by rw [hrt.out];simp)
       ·rw [if_neg c70] at H
        have c70b0 : decide (t268 < 0) = false:=decide_eq_false c70
        clear c70
        by_cases c71 : t268 = t266
        ·rw [if_pos c71] at H
         have c71b0 : (t268 == t266) = true:=beq_iff_eq.mpr c71
         have c71b1 : (t268 != t266) = false:=bne_eq_false_iff_eq.mpr c71
         clear c71
         replace H:=Option.bind_eq_some_iff.mp H
         obtain ⟨⟨t269,t272,t275,t276,t277⟩,A720,H⟩:=H
         replace H : ((impl_Fastest.f kj19 t269 t272 t275 t276 t277 a1 a2 a3).bind fun bt278 => ((laws_eqRun.f kj19 bt278.1 bt278.2.1 bt278.2.2 t229 t230 t231).bind fun t284 => (if t284 = true then ((laws_heldRun.f kj19 t245 t246 t267 1).bind fun t285 => (if t285 < 0 then (some false) else (if t285 = t266 then (some true) else (some false)))) else (some false)))) = some r:=H
         have A72:=Am A720
         clear A720
         replace H:=Option.bind_eq_some_iff.mp H
         obtain ⟨⟨t278,t279,t280⟩,A730,H⟩:=H
         replace H : ((laws_eqRun.f kj19 t278 t279 t280 t229 t230 t231).bind fun t284 => (if t284 = true then ((laws_heldRun.f kj19 t245 t246 t267 1).bind fun t285 => (if t285 < 0 then (some false) else (if t285 = t266 then (some true) else (some false)))) else (some false))) = some r:=H
         have A73:=Am A730
         clear A730
         replace H:=Option.bind_eq_some_iff.mp H
         obtain ⟨t284,A740,H⟩:=H
         replace H : (if t284 = true then ((laws_heldRun.f kj19 t245 t246 t267 1).bind fun t285 => (if t285 < 0 then (some false) else (if t285 = t266 then (some true) else (some false)))) else (some false)) = some r:=H
         have A74:=Am A740
         clear A740
         by_cases c75 : t284 = true
         ·subst c75
          have H1 : ((laws_heldRun.f kj19 t245 t246 t267 1).bind fun t285 => (if t285 < 0 then (some false) else (if t285 = t266 then (some true) else (some false)))) = some r:=by rw [if_pos rfl] at H;exact H
          clear H
          have H:=H1
          clear H1
          replace H:=Option.bind_eq_some_iff.mp H
          obtain ⟨t285,A760,H⟩:=H
          replace H : (if t285 < 0 then (some false) else (if t285 = t266 then (some true) else (some false))) = some r:=H
          have A76:=Am A760
          clear A760
          by_cases c77 : t285 < 0
          ·rw [if_pos c77] at H
           have c77b0 : decide (t285 < 0) = true:=decide_eq_true c77
           clear c77
           exact absurd H (by rw [hrt.out];simp)
          ·rw [if_neg c77] at H
           have c77b0 : decide (t285 < 0) = false:=decide_eq_false c77
           clear c77
           by_cases c78 : t285 = t266
           ·rw [if_pos c78] at H
            have c78b0 : (t285 == t266) = true:=beq_iff_eq.mpr c78
            have c78b1 : (t285 != t266) = false:=bne_eq_false_iff_eq.mpr c78
            clear c78
            obtain rfl:=Option.some.inj H
            have hnb79:=NB250_218.out
            have hnc79:=NB218_250.out
            have hnb80:=NB250_234.out
            have hnc80:=NB234_250.out
            have hnb81:=NB250_244.out
            have hnc81:=NB244_250.out
            have hcz82_0 : wc.cell? ⟨gb250,0,none⟩ = some (.bool t245):=(kC BK250.out 0).trans rfl
            have hcz82_1 : wc.cell? ⟨gb250,1,none⟩ = some (.int .i64 t246):=(kC BK250.out 1).trans rfl
            have hcz82_2 : wc.cell? ⟨gb250,2,none⟩ = some (.slice Ao47 t247.length co47):=(kC BK250.out 2).trans rfl
            have hfz82_0:=kF BK250.out 0
            have hfz82_1:=kF BK250.out 1
            have hfz82_2:=kF BK250.out 2
            go_wp2_with (first|((with_reducible refine gate_callee (f:=53) rfl ?_);refine goesL_ (some 57) rfl rfl Try.func53 (by kernel_rfl) rfl #[.agg #[.bool t245,.int .i64 t246,.slice Ao47 t247.length co47],.int .i64 1] rfl (by (try simp only [List.map_toArray,List.map_cons,List.map_nil]);first|done|rfl|(simp only [List.length_drop,List.length_take];rfl)) ?_;(with_reducible refine (laws_markRun.calls kj19 t245 t246 (fun k_ => some k_ = (.slice Ao47 t247.length co47 : Value).ownBlock) (.slice Ao47 t247.length co47) t247 1 t266 t267 w _ ?side1 ?side2 A68.out).mono ?_);(case side1 => repeat (first|(with_reducible first|exact HB.out|apply bA|apply bN|apply bD|refine bS ?_ GE218.out|refine bS ?_ GE234.out|refine bS ?_ GE244.out|refine bS ?_ GE250.out)|exact HB.out));(case side2 => exact Kd.R_tight rfl HO_251002.out);rintro e w83 ⟨rfl,hy0,hb,hkp⟩;refine ⟨_,rfl,?_⟩;have n0_:=Am (Kd.R_mono (ok':=fun k_ => some k_ ≠ (.slice Ao47 t247.length co47 : Value).ownBlock) (Kd.R_keptB (HO_235002.out) hkp (fun k_ hk_ hs_ => (hk_) hs_)) (fun k_ hk_ => hk_.1));have n1_:=Am (Kd.R_mono (ok':=fun k_ => True) (Kd.R_keptB ((Kd.R_apart' HO_245000.out (Kd.R_typed HO_251002.out) (by decide))) hkp (fun k_ hk_ hs_ => (hk_.2) hs_)) (fun k_ hk_ => trivial));have n2_:=Am (Kd.R_mono (ok':=fun k_ => True) (Kd.R_keptB ((Kd.R_apart' HO_245001.out (Kd.R_typed HO_251002.out) (by decide))) hkp (fun k_ hk_ hs_ => (hk_.2) hs_)) (fun k_ hk_ => trivial));have n3_:=Am (Kd.R_reok rfl hy0 (fun k_ e_ => HO_251002.out.1 k_ e_));have n4_:=Am (blk_kept (by (with_reducible repeat (first|refine kN ?_ _|refine kD ?_|refine kA ?_ _));exact BK218.out) hkp (fun hs_ => (fun e_ => (Kd.R_ne HO_251002.out BK218.out (by decide)) e_) hs_));have n5_:=Am (blk_kept (by (with_reducible repeat (first|refine kN ?_ _|refine kD ?_|refine kA ?_ _));exact BK234.out) hkp (fun hs_ => (fun e_ => (Kd.R_ne HO_251002.out BK234.out (by decide)) e_) hs_));have n6_:=Am (blk_kept (by (with_reducible repeat (first|refine kN ?_ _|refine kD ?_|refine kA ?_ _));exact BK244.out) hkp (fun hs_ => (fun e_ => (Kd.R_ne HO_251002.out BK244.out (by decide)) e_) hs_));have n7_:=Am (blk_kept (by (with_reducible repeat (first|refine kN ?_ _|refine kD ?_|refine kA ?_ _));exact BK250.out) hkp (fun hs_ => (fun e_ => (Kd.R_ne HO_251002.out BK250.out (by decide)) e_) hs_));have n8_:=Am (hb);clear HO_235002;clear HO_245000;clear HO_245001;clear HO_251002;clear BK218;clear BK234;clear BK244;clear BK250;clear HB;have HO_235002:=n0_;have HO_245000:=n1_;have HO_245001:=n2_;have HO_251002:=n3_;have BK218:=n4_;have BK234:=n5_;have BK244:=n6_;have BK250:=n7_;have HB:=n8_;clear n0_ n1_ n2_ n3_ n4_ n5_ n6_ n7_ n8_;(try clear hb);(try clear hkp);(try clear hy0);have hcz84_0 : w83.cell? ⟨gb250,0,none⟩ = some (.bool t245):=(kC BK250.out 0).trans rfl;have hcz84_1 : w83.cell? ⟨gb250,1,none⟩ = some (.int .i64 t246):=(kC BK250.out 1).trans rfl;have hcz84_2 : w83.cell? ⟨gb250,2,none⟩ = some (.slice Ao47 t247.length co47):=(kC BK250.out 2).trans rfl;have hfz84_0:=kF BK250.out 0;have hfz84_1:=kF BK250.out 1;have hfz84_2:=kF BK250.out 2)|((with_reducible refine gate_callee (f:=54) rfl ?_);refine goesL_ (some 60) rfl rfl Try.func54 (by kernel_rfl) rfl #[.agg #[.bool t245,.int .i64 t246,.slice Ao47 t267.length co47],.int .i64 1] rfl (by (try simp only [List.map_toArray,List.map_cons,List.map_nil]);first|done|(rw [show t267.length = t247.length from (Kd.R_reads' HO_251002.out).1.symm] <;> rfl)|rfl|(simp only [List.length_drop,List.length_take];rfl)) ?_;(with_reducible refine (laws_heldRun.calls kj19 t245 t246 _ _ t267 1 t268 _ ?side1 ?side2 A69.out).mono ?_);(case side1 => repeat (first|exact (Kd.R_reads' HO_251002.out).2.2|(with_reducible refine Kd.C_alloc ?_ _)|(with_reducible refine Kd.C_drewN ?_ _)|(with_reducible refine Kd.C_drew ?_)));(case side2 => rw [show t267.length = t247.length from (Kd.R_reads' HO_251002.out).1.symm];exact (Kd.R_reads' HO_251002.out).2.1);rintro e w85 ⟨rfl,hb⟩;refine ⟨_,rfl,?_⟩;have n0_:=Am (Kd.R_below (by (with_reducible repeat (first|apply Kd.R_alloc|apply Kd.R_drewN|apply Kd.R_drew));exact HO_235002.out) hb);have n1_:=Am (Kd.R_below (by (with_reducible repeat (first|apply Kd.R_alloc|apply Kd.R_drewN|apply Kd.R_drew));exact HO_245000.out) hb);have n2_:=Am (Kd.R_below (by (with_reducible repeat (first|apply Kd.R_alloc|apply Kd.R_drewN|apply Kd.R_drew));exact HO_245001.out) hb);have n3_:=Am (Kd.R_below (by (with_reducible repeat (first|apply Kd.R_alloc|apply Kd.R_drewN|apply Kd.R_drew));exact HO_251002.out) hb);have n4_:=Am (blk_below (g:=gb218) (o:=.cells #[.slice A0_0 l0_0.length c0_0,.slice A0_1 l0_1.length c0_1,.int .i64 a0_2,.int .i64 a0_3,.int .i64 a0_4] 25 (0,0)) (by (with_reducible repeat (first|refine kN ?_ _|refine kD ?_|refine kA ?_ _));exact BK218.out) hb);have n5_:=Am (blk_below (g:=gb234) (o:=.cells #[.bool t229,.int .i64 t230,.slice Ao32 t231.length co32] 63 (0,0)) (by (with_reducible repeat (first|refine kN ?_ _|refine kD ?_|refine kA ?_ _));exact BK234.out) hb);have n6_:=Am (blk_below (g:=gb244) (o:=.cells #[.slice Ao36 t263.length co36,.slice Ao40 t264.length co40,.int .i64 t241,.int .i64 t242,.int .i64 t243] 31 (0,0)) (by (with_reducible repeat (first|refine kN ?_ _|refine kD ?_|refine kA ?_ _));exact BK244.out) hb);have n7_:=Am (blk_below (g:=gb250) (o:=.cells #[.bool t245,.int .i64 t246,.slice Ao47 t247.length co47] 63 (0,0)) (by (with_reducible repeat (first|refine kN ?_ _|refine kD ?_|refine kA ?_ _));exact BK250.out) hb);have n8_:=Am (below_step (by repeat (first|(with_reducible first|exact HB.out|apply bA|apply bN|apply bD|refine bS ?_ GE218.out|refine bS ?_ GE234.out|refine bS ?_ GE244.out|refine bS ?_ GE250.out)|exact HB.out)) hb);clear HO_235002;clear HO_245000;clear HO_245001;clear HO_251002;clear BK218;clear BK234;clear BK244;clear BK250;clear HB;have HO_235002:=n0_;have HO_245000:=n1_;have HO_245001:=n2_;have HO_251002:=n3_;have BK218:=n4_;have BK234:=n5_;have BK244:=n6_;have BK250:=n7_;have HB:=n8_;clear n0_ n1_ n2_ n3_ n4_ n5_ n6_ n7_ n8_;(try clear hb);(try clear hb2);(try clear hk);(try clear hi);have hnb86:=NB218_234.out;have hnc86:=NB234_218.out;have hnb87:=NB218_244.out;have hnc87:=NB244_218.out;have hcz88_0 : w85.cell? ⟨gb218,0,none⟩ = some (.slice A0_0 l0_0.length c0_0):=(kC BK218.out 0).trans rfl;have hcz88_1 : w85.cell? ⟨gb218,1,none⟩ = some (.slice A0_1 l0_1.length c0_1):=(kC BK218.out 1).trans rfl;have hcz88_2 : w85.cell? ⟨gb218,2,none⟩ = some (.int .i64 a0_2):=(kC BK218.out 2).trans rfl;have hcz88_3 : w85.cell? ⟨gb218,3,none⟩ = some (.int .i64 a0_3):=(kC BK218.out 3).trans rfl;have hcz88_4 : w85.cell? ⟨gb218,4,none⟩ = some (.int .i64 a0_4):=(kC BK218.out 4).trans rfl;have hfz88_0:=kF BK218.out 0;have hfz88_1:=kF BK218.out 1;have hfz88_2:=kF BK218.out 2;have hfz88_3:=kF BK218.out 3;have hfz88_4:=kF BK218.out 4)|((with_reducible refine gate_callee (f:=16) rfl ?_);refine goesL_ (some 67) rfl rfl Try.func16 (by kernel_rfl) rfl #[.agg #[.slice A0_0 l0_0.length c0_0,.slice A0_1 l0_1.length c0_1,.int .i64 a0_2,.int .i64 a0_3,.int .i64 a0_4]] rfl (by (try simp only [List.map_toArray,List.map_cons,List.map_nil]);first|done|rfl|(simp only [List.length_drop,List.length_take];rfl)) ?_;(with_reducible refine (laws_toProfile.calls kj19 _ _ l0_0 _ _ l0_1 a0_2 a0_3 a0_4 t269 t272 t275 t276 t277 _ ?side1 ?side2 ?side3 ?side4 A72.out).mono ?_);(case side1 => repeat (first|exact (Kd.C_below HR0_0.out HB.out)|(with_reducible refine Kd.C_alloc ?_ _)|(with_reducible refine Kd.C_drewN ?_ _)|(with_reducible refine Kd.C_drew ?_)));(case side2 => exact HC0_0.out);(case side3 => repeat (first|exact (Kd.C_below HR0_1.out HB.out)|(with_reducible refine Kd.C_alloc ?_ _)|(with_reducible refine Kd.C_drewN ?_ _)|(with_reducible refine Kd.C_drew ?_)));(case side4 => exact HC0_1.out);rintro e w89 ⟨v270,v273,rfl,ho0,ho1,hb⟩;refine ⟨_,rfl,?_⟩;have n0_:=Am (Kd.R_below (by (with_reducible repeat (first|apply Kd.R_alloc|apply Kd.R_drewN|apply Kd.R_drew));exact HO_235002.out) hb);have n1_:=Am (Kd.R_elder' (by (with_reducible repeat (first|apply Kd.R_alloc|apply Kd.R_drewN|apply Kd.R_drew));exact HO_245000.out) (Kd.R_base ho0) hb);have n2_:=Am (Kd.R_elder' (by (with_reducible repeat (first|apply Kd.R_alloc|apply Kd.R_drewN|apply Kd.R_drew));exact HO_245001.out) (Kd.R_base ho1) hb);have n3_:=Am (Kd.R_below (by (with_reducible repeat (first|apply Kd.R_alloc|apply Kd.R_drewN|apply Kd.R_drew));exact HO_251002.out) hb);have n4_:=Am (Kd.R_lower (Kd.R_new' ho0 (Kd.R_lt (by (with_reducible repeat (first|apply Kd.R_alloc|apply Kd.R_drewN|apply Kd.R_drew));exact HO_245000.out))) (below_size (by repeat (first|(with_reducible first|exact HB.out|apply bA|apply bN|apply bD|refine bS ?_ GE218.out|refine bS ?_ GE234.out|refine bS ?_ GE244.out|refine bS ?_ GE250.out)|exact HB.out))));have n5_:=Am (Kd.R_lower (Kd.R_new' ho1 (Kd.R_lt (by (with_reducible repeat (first|apply Kd.R_alloc|apply Kd.R_drewN|apply Kd.R_drew));exact HO_245001.out))) (below_size (by repeat (first|(with_reducible first|exact HB.out|apply bA|apply bN|apply bD|refine bS ?_ GE218.out|refine bS ?_ GE234.out|refine bS ?_ GE244.out|refine bS ?_ GE250.out)|exact HB.out))));have n6_:=Am (blk_below (g:=gb218) (o:=.cells #[.slice A0_0 l0_0.length c0_0,.slice A0_1 l0_1.length c0_1,.int .i64 a0_2,.int .i64 a0_3,.int .i64 a0_4] 25 (0,0)) (by (with_reducible repeat (first|refine kN ?_ _|refine kD ?_|refine kA ?_ _));exact BK218.out) hb);have n7_:=Am (blk_below (g:=gb234) (o:=.cells #[.bool t229,.int .i64 t230,.slice Ao32 t231.length co32] 63 (0,0)) (by (with_reducible repeat (first|refine kN ?_ _|refine kD ?_|refine kA ?_ _));exact BK234.out) hb);have n8_:=Am (blk_below (g:=gb244) (o:=.cells #[.slice Ao36 t263.length co36,.slice Ao40 t264.length co40,.int .i64 t241,.int .i64 t242,.int .i64 t243] 31 (0,0)) (by (with_reducible repeat (first|refine kN ?_ _|refine kD ?_|refine kA ?_ _));exact BK244.out) hb);have n9_:=Am (blk_below (g:=gb250) (o:=.cells #[.bool t245,.int .i64 t246,.slice Ao47 t247.length co47] 63 (0,0)) (by (with_reducible repeat (first|refine kN ?_ _|refine kD ?_|refine kA ?_ _));exact BK250.out) hb);have n10_:=Am (below_step (by repeat (first|(with_reducible first|exact HB.out|apply bA|apply bN|apply bD|refine bS ?_ GE218.out|refine bS ?_ GE234.out|refine bS ?_ GE244.out|refine bS ?_ GE250.out)|exact HB.out)) hb);clear HO_235002;clear HO_245000;clear HO_245001;clear HO_251002;clear BK218;clear BK234;clear BK244;clear BK250;clear HB;have HO_235002:=n0_;have HO_245000:=n1_;have HO_245001:=n2_;have HO_251002:=n3_;have HO271:=n4_;have HO274:=n5_;have BK218:=n6_;have BK234:=n7_;have BK244:=n8_;have BK250:=n9_;have HB:=n10_;clear n0_ n1_ n2_ n3_ n4_ n5_ n6_ n7_ n8_ n9_ n10_;(try clear hb);(try clear hb2);(try clear hk);(try clear hi);(try clear ho0);(try clear ho1);obtain ⟨Ao90,co90,eo90⟩:=Kd.R_slice HO271.out;subst eo90;obtain ⟨Ao91,co91,eo91⟩:=Kd.R_slice HO274.out;subst eo91)|((with_reducible refine gate_callee (f:=51) rfl ?_);refine goesL_ (some 71) rfl rfl Try.func51 (by kernel_rfl) rfl #[.agg #[.slice Ao90 t269.length co90,.slice Ao91 t272.length co91,.int .i64 t275,.int .i64 t276,.int .i64 t277],.int .i64 a1,.int .i64 a2,.int .i64 a3] rfl (by (try simp only [List.map_toArray,List.map_cons,List.map_nil]);first|done|rfl|(simp only [List.length_drop,List.length_take];rfl)) ?_;(with_reducible refine (impl_Fastest.calls kj19 _ _ t269 _ _ t272 t275 t276 t277 a1 a2 a3 t278 t279 t280 _ ?side1 ?side2 ?side3 ?side4 A73.out).mono ?_);(case side1 => repeat (first|exact (Kd.R_reads' HO271.out).2.2|(with_reducible refine Kd.C_alloc ?_ _)|(with_reducible refine Kd.C_drewN ?_ _)|(with_reducible refine Kd.C_drew ?_)));(case side2 => exact (Kd.R_reads' HO271.out).2.1);(case side3 => repeat (first|exact (Kd.R_reads' HO274.out).2.2|(with_reducible refine Kd.C_alloc ?_ _)|(with_reducible refine Kd.C_drewN ?_ _)|(with_reducible refine Kd.C_drew ?_)));(case side4 => exact (Kd.R_reads' HO274.out).2.1);rintro e w92 ⟨v281,rfl,ho0,hb⟩;refine ⟨_,rfl,?_⟩;have n0_:=Am (Kd.R_elder' (by (with_reducible repeat (first|apply Kd.R_alloc|apply Kd.R_drewN|apply Kd.R_drew));exact HO_235002.out) (Kd.R_base ho0) hb);have n1_:=Am (Kd.R_below (by (with_reducible repeat (first|apply Kd.R_alloc|apply Kd.R_drewN|apply Kd.R_drew));exact HO_245000.out) hb);have n2_:=Am (Kd.R_below (by (with_reducible repeat (first|apply Kd.R_alloc|apply Kd.R_drewN|apply Kd.R_drew));exact HO_245001.out) hb);have n3_:=Am (Kd.R_elder' (by (with_reducible repeat (first|apply Kd.R_alloc|apply Kd.R_drewN|apply Kd.R_drew));exact HO_251002.out) (Kd.R_base ho0) hb);have n4_:=Am (Kd.R_below (by (with_reducible repeat (first|apply Kd.R_alloc|apply Kd.R_drewN|apply Kd.R_drew));exact HO271.out) hb);have n5_:=Am (Kd.R_below (by (with_reducible repeat (first|apply Kd.R_alloc|apply Kd.R_drewN|apply Kd.R_drew));exact HO274.out) hb);have n6_:=Am (Kd.R_lower (Kd.R_new' (Kd.R_new' ho0 (Kd.R_lt (by (with_reducible repeat (first|apply Kd.R_alloc|apply Kd.R_drewN|apply Kd.R_drew));exact HO_235002.out))) (Kd.R_lt (by (with_reducible repeat (first|apply Kd.R_alloc|apply Kd.R_drewN|apply Kd.R_drew));exact HO_251002.out))) (below_size (by repeat (first|(with_reducible first|exact HB.out|apply bA|apply bN|apply bD|refine bS ?_ GE218.out|refine bS ?_ GE234.out|refine bS ?_ GE244.out|refine bS ?_ GE250.out)|exact HB.out))));have n7_:=Am (blk_below (g:=gb218) (o:=.cells #[.slice A0_0 l0_0.length c0_0,.slice A0_1 l0_1.length c0_1,.int .i64 a0_2,.int .i64 a0_3,.int .i64 a0_4] 25 (0,0)) (by (with_reducible repeat (first|refine kN ?_ _|refine kD ?_|refine kA ?_ _));exact BK218.out) hb);have n8_:=Am (blk_below (g:=gb234) (o:=.cells #[.bool t229,.int .i64 t230,.slice Ao32 t231.length co32] 63 (0,0)) (by (with_reducible repeat (first|refine kN ?_ _|refine kD ?_|refine kA ?_ _));exact BK234.out) hb);have n9_:=Am (blk_below (g:=gb244) (o:=.cells #[.slice Ao36 t263.length co36,.slice Ao40 t264.length co40,.int .i64 t241,.int .i64 t242,.int .i64 t243] 31 (0,0)) (by (with_reducible repeat (first|refine kN ?_ _|refine kD ?_|refine kA ?_ _));exact BK244.out) hb);have n10_:=Am (blk_below (g:=gb250) (o:=.cells #[.bool t245,.int .i64 t246,.slice Ao47 t247.length co47] 63 (0,0)) (by (with_reducible repeat (first|refine kN ?_ _|refine kD ?_|refine kA ?_ _));exact BK250.out) hb);have n11_:=Am (below_step (by repeat (first|(with_reducible first|exact HB.out|apply bA|apply bN|apply bD|refine bS ?_ GE218.out|refine bS ?_ GE234.out|refine bS ?_ GE244.out|refine bS ?_ GE250.out)|exact HB.out)) hb);clear HO_235002;clear HO_245000;clear HO_245001;clear HO_251002;clear HO271;clear HO274;clear BK218;clear BK234;clear BK244;clear BK250;clear HB;have HO_235002:=n0_;have HO_245000:=n1_;have HO_245001:=n2_;have HO_251002:=n3_;have HO271:=n4_;have HO274:=n5_;have HO282:=n6_;have BK218:=n7_;have BK234:=n8_;have BK244:=n9_;have BK250:=n10_;have HB:=n11_;clear n0_ n1_ n2_ n3_ n4_ n5_ n6_ n7_ n8_ n9_ n10_ n11_;(try clear hb);(try clear hb2);(try clear hk);(try clear hi);(try clear ho0))|((with_reducible refine gate_dst (N:=16) rfl ?_);refine box_event ?hg (N:=16) ?hd (cs:=#[.bool false,.int .i64 0,.slice none 0 0]) (t:=63) ?hr ?_;(case hd => rfl);(case hg => rfl);(case hr => first|(go_simp;done)|(go_simp;rfl));intro gb283 hg w93 hbox hb;have n0_:=Am (Kd.R_below (by (with_reducible repeat (first|apply Kd.R_alloc|apply Kd.R_drewN|apply Kd.R_drew));exact HO_235002.out) hb);have n1_:=Am (Kd.R_below (by (with_reducible repeat (first|apply Kd.R_alloc|apply Kd.R_drewN|apply Kd.R_drew));exact HO_245000.out) hb);have n2_:=Am (Kd.R_below (by (with_reducible repeat (first|apply Kd.R_alloc|apply Kd.R_drewN|apply Kd.R_drew));exact HO_245001.out) hb);have n3_:=Am (Kd.R_below (by (with_reducible repeat (first|apply Kd.R_alloc|apply Kd.R_drewN|apply Kd.R_drew));exact HO_251002.out) hb);have n4_:=Am (Kd.R_below (by (with_reducible repeat (first|apply Kd.R_alloc|apply Kd.R_drewN|apply Kd.R_drew));exact HO271.out) hb);have n5_:=Am (Kd.R_below (by (with_reducible repeat (first|apply Kd.R_alloc|apply Kd.R_drewN|apply Kd.R_drew));exact HO274.out) hb);have n6_:=Am (Kd.R_below (by (with_reducible repeat (first|apply Kd.R_alloc|apply Kd.R_drewN|apply Kd.R_drew));exact HO282.out) hb);have n7_:=Am (blk_below (g:=gb218) (o:=.cells #[.slice A0_0 l0_0.length c0_0,.slice A0_1 l0_1.length c0_1,.int .i64 a0_2,.int .i64 a0_3,.int .i64 a0_4] 25 (0,0)) (by (with_reducible repeat (first|refine kN ?_ _|refine kD ?_|refine kA ?_ _));exact BK218.out) hb);have n8_:=Am (blk_below (g:=gb234) (o:=.cells #[.bool t229,.int .i64 t230,.slice Ao32 t231.length co32] 63 (0,0)) (by (with_reducible repeat (first|refine kN ?_ _|refine kD ?_|refine kA ?_ _));exact BK234.out) hb);have n9_:=Am (blk_below (g:=gb244) (o:=.cells #[.slice Ao36 t263.length co36,.slice Ao40 t264.length co40,.int .i64 t241,.int .i64 t242,.int .i64 t243] 31 (0,0)) (by (with_reducible repeat (first|refine kN ?_ _|refine kD ?_|refine kA ?_ _));exact BK244.out) hb);have n10_:=Am (blk_below (g:=gb250) (o:=.cells #[.bool t245,.int .i64 t246,.slice Ao47 t247.length co47] 63 (0,0)) (by (with_reducible repeat (first|refine kN ?_ _|refine kD ?_|refine kA ?_ _));exact BK250.out) hb);have n11_:=Am (below_step (by repeat (first|(with_reducible first|exact HB.out|apply bA|apply bN|apply bD|refine bS ?_ GE218.out|refine bS ?_ GE234.out|refine bS ?_ GE244.out|refine bS ?_ GE250.out)|exact HB.out)) hb);have n12_:=Am (hbox);have n13_:=Am ((by rw [hg];exact (below_size (by repeat (first|(with_reducible first|exact HB.out|apply bA|apply bN|apply bD|refine bS ?_ GE218.out|refine bS ?_ GE234.out|refine bS ?_ GE244.out|refine bS ?_ GE250.out)|exact HB.out))) : w.heap.size ≤ gb283));have n14_:=Am ((by rw [hg];exact (below_size (by repeat (first|(with_reducible first|exact HB.out|apply bA|apply bN|apply bD|refine bS ?_ GE218.out|refine bS ?_ GE234.out|refine bS ?_ GE244.out|refine bS ?_ GE250.out)|exact HB.out))) : w.heap.size ≤ gb283));have n15_:=Am ((by rw [hg];exact Nat.ne_of_lt (blk_lt (g:=gb218) (o:=.cells #[.slice A0_0 l0_0.length c0_0,.slice A0_1 l0_1.length c0_1,.int .i64 a0_2,.int .i64 a0_3,.int .i64 a0_4] 25 (0,0)) (by (with_reducible repeat (first|refine kN ?_ _|refine kD ?_|refine kA ?_ _));exact BK218.out)) : gb218 ≠ gb283));have n16_:=Am ((by rw [hg];exact Nat.ne_of_gt (blk_lt (g:=gb218) (o:=.cells #[.slice A0_0 l0_0.length c0_0,.slice A0_1 l0_1.length c0_1,.int .i64 a0_2,.int .i64 a0_3,.int .i64 a0_4] 25 (0,0)) (by (with_reducible repeat (first|refine kN ?_ _|refine kD ?_|refine kA ?_ _));exact BK218.out)) : gb283 ≠ gb218));have n17_:=Am ((by rw [hg];exact Nat.ne_of_lt (blk_lt (g:=gb234) (o:=.cells #[.bool t229,.int .i64 t230,.slice Ao32 t231.length co32] 63 (0,0)) (by (with_reducible repeat (first|refine kN ?_ _|refine kD ?_|refine kA ?_ _));exact BK234.out)) : gb234 ≠ gb283));have n18_:=Am ((by rw [hg];exact Nat.ne_of_gt (blk_lt (g:=gb234) (o:=.cells #[.bool t229,.int .i64 t230,.slice Ao32 t231.length co32] 63 (0,0)) (by (with_reducible repeat (first|refine kN ?_ _|refine kD ?_|refine kA ?_ _));exact BK234.out)) : gb283 ≠ gb234));have n19_:=Am ((by rw [hg];exact Nat.ne_of_lt (blk_lt (g:=gb244) (o:=.cells #[.slice Ao36 t263.length co36,.slice Ao40 t264.length co40,.int .i64 t241,.int .i64 t242,.int .i64 t243] 31 (0,0)) (by (with_reducible repeat (first|refine kN ?_ _|refine kD ?_|refine kA ?_ _));exact BK244.out)) : gb244 ≠ gb283));have n20_:=Am ((by rw [hg];exact Nat.ne_of_gt (blk_lt (g:=gb244) (o:=.cells #[.slice Ao36 t263.length co36,.slice Ao40 t264.length co40,.int .i64 t241,.int .i64 t242,.int .i64 t243] 31 (0,0)) (by (with_reducible repeat (first|refine kN ?_ _|refine kD ?_|refine kA ?_ _));exact BK244.out)) : gb283 ≠ gb244));have n21_:=Am ((by rw [hg];exact Nat.ne_of_lt (blk_lt (g:=gb250) (o:=.cells #[.bool t245,.int .i64 t246,.slice Ao47 t247.length co47] 63 (0,0)) (by (with_reducible repeat (first|refine kN ?_ _|refine kD ?_|refine kA ?_ _));exact BK250.out)) : gb250 ≠ gb283));have n22_:=Am ((by rw [hg];exact Nat.ne_of_gt (blk_lt (g:=gb250) (o:=.cells #[.bool t245,.int .i64 t246,.slice Ao47 t247.length co47] 63 (0,0)) (by (with_reducible repeat (first|refine kN ?_ _|refine kD ?_|refine kA ?_ _));exact BK250.out)) : gb283 ≠ gb250));clear HO_235002;clear HO_245000;clear HO_245001;clear HO_251002;clear HO271;clear HO274;clear HO282;clear BK218;clear BK234;clear BK244;clear BK250;clear HB;have HO_235002:=n0_;have HO_245000:=n1_;have HO_245001:=n2_;have HO_251002:=n3_;have HO271:=n4_;have HO274:=n5_;have HO282:=n6_;have BK218:=n7_;have BK234:=n8_;have BK244:=n9_;have BK250:=n10_;have HB:=n11_;have BK283:=n12_;have GW283:=n13_;have GE283:=n14_;have NB218_283:=n15_;have NB283_218:=n16_;have NB234_283:=n17_;have NB283_234:=n18_;have NB244_283:=n19_;have NB283_244:=n20_;have NB250_283:=n21_;have NB283_250:=n22_;clear n0_ n1_ n2_ n3_ n4_ n5_ n6_ n7_ n8_ n9_ n10_ n11_ n12_ n13_ n14_ n15_ n16_ n17_ n18_ n19_ n20_ n21_ n22_;clear hb hbox hg;have hnb94:=NB283_218.out;have hnc94:=NB218_283.out;have hnb95:=NB283_234.out;have hnc95:=NB234_283.out;have hnb96:=NB283_244.out;have hnc96:=NB244_283.out;have hnb97:=NB283_250.out;have hnc97:=NB250_283.out;have hcz98_0 : w93.cell? ⟨gb283,0,none⟩ = some (.bool false):=(kC BK283.out 0).trans rfl;have hcz98_1 : w93.cell? ⟨gb283,1,none⟩ = some (.int .i64 0):=(kC BK283.out 1).trans rfl;have hcz98_2 : w93.cell? ⟨gb283,2,none⟩ = some (.slice none 0 0):=(kC BK283.out 2).trans rfl;have hfz98_0:=kF BK283.out 0;have hfz98_1:=kF BK283.out 1;have hfz98_2:=kF BK283.out 2;obtain ⟨Ao99,co99,eo99⟩:=Kd.R_slice HO282.out;subst eo99;have hnb100:=NB234_244.out;have hnc100:=NB244_234.out;have hcz101_0 : w93.cell? ⟨gb234,0,none⟩ = some (.bool t229):=(kC BK234.out 0).trans rfl;have hcz101_1 : w93.cell? ⟨gb234,1,none⟩ = some (.int .i64 t230):=(kC BK234.out 1).trans rfl;have hcz101_2 : w93.cell? ⟨gb234,2,none⟩ = some (.slice Ao32 t231.length co32):=(kC BK234.out 2).trans rfl;have hfz101_0:=kF BK234.out 0;have hfz101_1:=kF BK234.out 1;have hfz101_2:=kF BK234.out 2)|((with_reducible refine gate_callee (f:=52) rfl ?_);refine goesL_ (some 74) rfl rfl Try.func52 (by kernel_rfl) rfl #[.agg #[.bool t278,.int .i64 t279,.slice Ao99 t280.length co99],.agg #[.bool t229,.int .i64 t230,.slice Ao32 t231.length co32]] rfl (by (try simp only [List.map_toArray,List.map_cons,List.map_nil]);first|done|rfl|(simp only [List.length_drop,List.length_take];rfl)) ?_;(with_reducible refine (laws_eqRun.calls kj19 t278 t279 _ _ t280 t229 t230 _ _ t231 true _ ?side1 ?side2 ?side3 ?side4 A74.out).mono ?_);(case side1 => refine (Kd.R_reads' (e:=3) (base:=w.heap.size) (ok:=fun k_ => ((True∧some k_ ≠ (.slice Ao32 t231.length co32 : Value).ownBlock)∧some k_ ≠ (.slice Ao47 t247.length co47 : Value).ownBlock)) (n:=t280.length) (c:=co99) ?_).2.2;exact (by (with_reducible repeat (first|apply Kd.R_alloc|apply Kd.R_drewN|apply Kd.R_drew));exact (Kd.R_mono (Kd.R_far (p:=⟨gb283,2,none⟩) (Kd.R_far (p:=⟨gb283,1,none⟩) (Kd.R_far (p:=⟨gb283,0,none⟩) (Kd.R_types HO282.out BK283.out (by decide)) (fun _ hk => hk.2) (.bool t278)) (fun _ hk => hk.2) (.int .i64 t279)) (fun _ hk => hk.2) (.slice Ao99 t280.length co99)) (fun _ h_ => h_.1))));(case side2 => exact (Kd.R_reads' HO282.out).2.1);(case side3 => refine (Kd.R_reads' (e:=3) (base:=w.heap.size) (ok:=fun k_ => (some k_ ≠ (.slice Ao47 t247.length co47 : Value).ownBlock∧some k_ ≠ (.slice Ao99 t280.length co99 : Value).ownBlock)) (n:=t231.length) (c:=co32) ?_).2.2;exact (by (with_reducible repeat (first|apply Kd.R_alloc|apply Kd.R_drewN|apply Kd.R_drew));exact (Kd.R_mono (Kd.R_far (p:=⟨gb283,2,none⟩) (Kd.R_far (p:=⟨gb283,1,none⟩) (Kd.R_far (p:=⟨gb283,0,none⟩) (Kd.R_types HO_235002.out BK283.out (by decide)) (fun _ hk => hk.2) (.bool t278)) (fun _ hk => hk.2) (.int .i64 t279)) (fun _ hk => hk.2) (.slice Ao99 t280.length co99)) (fun _ h_ => h_.1))));(case side4 => exact (Kd.R_reads' HO_235002.out).2.1);rintro e w102 ⟨rfl,hb⟩;refine ⟨_,rfl,?_⟩;have n0_:=Am (Kd.R_below (by (with_reducible repeat (first|apply Kd.R_alloc|apply Kd.R_drewN|apply Kd.R_drew));exact (Kd.R_mono (Kd.R_far (p:=⟨gb283,2,none⟩) (Kd.R_far (p:=⟨gb283,1,none⟩) (Kd.R_far (p:=⟨gb283,0,none⟩) (Kd.R_types HO_235002.out BK283.out (by decide)) (fun _ hk => hk.2) (.bool t278)) (fun _ hk => hk.2) (.int .i64 t279)) (fun _ hk => hk.2) (.slice Ao99 t280.length co99)) (fun _ h_ => h_.1))) hb);have n1_:=Am (Kd.R_below (by (with_reducible repeat (first|apply Kd.R_alloc|apply Kd.R_drewN|apply Kd.R_drew));exact (Kd.R_mono (Kd.R_far (p:=⟨gb283,2,none⟩) (Kd.R_far (p:=⟨gb283,1,none⟩) (Kd.R_far (p:=⟨gb283,0,none⟩) (Kd.R_types HO_245000.out BK283.out (by decide)) (fun _ hk => hk.2) (.bool t278)) (fun _ hk => hk.2) (.int .i64 t279)) (fun _ hk => hk.2) (.slice Ao99 t280.length co99)) (fun _ h_ => h_.1))) hb);have n2_:=Am (Kd.R_below (by (with_reducible repeat (first|apply Kd.R_alloc|apply Kd.R_drewN|apply Kd.R_drew));exact (Kd.R_mono (Kd.R_far (p:=⟨gb283,2,none⟩) (Kd.R_far (p:=⟨gb283,1,none⟩) (Kd.R_far (p:=⟨gb283,0,none⟩) (Kd.R_types HO_245001.out BK283.out (by decide)) (fun _ hk => hk.2) (.bool t278)) (fun _ hk => hk.2) (.int .i64 t279)) (fun _ hk => hk.2) (.slice Ao99 t280.length co99)) (fun _ h_ => h_.1))) hb);have n3_:=Am (Kd.R_below (by (with_reducible repeat (first|apply Kd.R_alloc|apply Kd.R_drewN|apply Kd.R_drew));exact (Kd.R_mono (Kd.R_far (p:=⟨gb283,2,none⟩) (Kd.R_far (p:=⟨gb283,1,none⟩) (Kd.R_far (p:=⟨gb283,0,none⟩) (Kd.R_types HO_251002.out BK283.out (by decide)) (fun _ hk => hk.2) (.bool t278)) (fun _ hk => hk.2) (.int .i64 t279)) (fun _ hk => hk.2) (.slice Ao99 t280.length co99)) (fun _ h_ => h_.1))) hb);have n4_:=Am (Kd.R_below (by (with_reducible repeat (first|apply Kd.R_alloc|apply Kd.R_drewN|apply Kd.R_drew));exact (Kd.R_mono (Kd.R_far (p:=⟨gb283,2,none⟩) (Kd.R_far (p:=⟨gb283,1,none⟩) (Kd.R_far (p:=⟨gb283,0,none⟩) (Kd.R_types HO271.out BK283.out (by decide)) (fun _ hk => hk.2) (.bool t278)) (fun _ hk => hk.2) (.int .i64 t279)) (fun _ hk => hk.2) (.slice Ao99 t280.length co99)) (fun _ h_ => h_.1))) hb);have n5_:=Am (Kd.R_below (by (with_reducible repeat (first|apply Kd.R_alloc|apply Kd.R_drewN|apply Kd.R_drew));exact (Kd.R_mono (Kd.R_far (p:=⟨gb283,2,none⟩) (Kd.R_far (p:=⟨gb283,1,none⟩) (Kd.R_far (p:=⟨gb283,0,none⟩) (Kd.R_types HO274.out BK283.out (by decide)) (fun _ hk => hk.2) (.bool t278)) (fun _ hk => hk.2) (.int .i64 t279)) (fun _ hk => hk.2) (.slice Ao99 t280.length co99)) (fun _ h_ => h_.1))) hb);have n6_:=Am (Kd.R_below (by (with_reducible repeat (first|apply Kd.R_alloc|apply Kd.R_drewN|apply Kd.R_drew));exact (Kd.R_mono (Kd.R_far (p:=⟨gb283,2,none⟩) (Kd.R_far (p:=⟨gb283,1,none⟩) (Kd.R_far (p:=⟨gb283,0,none⟩) (Kd.R_types HO282.out BK283.out (by decide)) (fun _ hk => hk.2) (.bool t278)) (fun _ hk => hk.2) (.int .i64 t279)) (fun _ hk => hk.2) (.slice Ao99 t280.length co99)) (fun _ h_ => h_.1))) hb);have n7_:=Am (blk_below (g:=gb218) (o:=.cells #[.slice A0_0 l0_0.length c0_0,.slice A0_1 l0_1.length c0_1,.int .i64 a0_2,.int .i64 a0_3,.int .i64 a0_4] 25 (0,0)) (by (with_reducible repeat (first|refine kN ?_ _|refine kD ?_|refine kA ?_ _));refine blk_far ?_ NB218_283.out _;(with_reducible repeat (first|refine kN ?_ _|refine kD ?_|refine kA ?_ _));refine blk_far ?_ NB218_283.out _;(with_reducible repeat (first|refine kN ?_ _|refine kD ?_|refine kA ?_ _));refine blk_far ?_ NB218_283.out _;(with_reducible repeat (first|refine kN ?_ _|refine kD ?_|refine kA ?_ _));exact BK218.out) hb);have n8_:=Am (blk_below (g:=gb234) (o:=.cells #[.bool t229,.int .i64 t230,.slice Ao32 t231.length co32] 63 (0,0)) (by (with_reducible repeat (first|refine kN ?_ _|refine kD ?_|refine kA ?_ _));refine blk_far ?_ NB234_283.out _;(with_reducible repeat (first|refine kN ?_ _|refine kD ?_|refine kA ?_ _));refine blk_far ?_ NB234_283.out _;(with_reducible repeat (first|refine kN ?_ _|refine kD ?_|refine kA ?_ _));refine blk_far ?_ NB234_283.out _;(with_reducible repeat (first|refine kN ?_ _|refine kD ?_|refine kA ?_ _));exact BK234.out) hb);have n9_:=Am (blk_below (g:=gb244) (o:=.cells #[.slice Ao36 t263.length co36,.slice Ao40 t264.length co40,.int .i64 t241,.int .i64 t242,.int .i64 t243] 31 (0,0)) (by (with_reducible repeat (first|refine kN ?_ _|refine kD ?_|refine kA ?_ _));refine blk_far ?_ NB244_283.out _;(with_reducible repeat (first|refine kN ?_ _|refine kD ?_|refine kA ?_ _));refine blk_far ?_ NB244_283.out _;(with_reducible repeat (first|refine kN ?_ _|refine kD ?_|refine kA ?_ _));refine blk_far ?_ NB244_283.out _;(with_reducible repeat (first|refine kN ?_ _|refine kD ?_|refine kA ?_ _));exact BK244.out) hb);have n10_:=Am (blk_below (g:=gb250) (o:=.cells #[.bool t245,.int .i64 t246,.slice Ao47 t247.length co47] 63 (0,0)) (by (with_reducible repeat (first|refine kN ?_ _|refine kD ?_|refine kA ?_ _));refine blk_far ?_ NB250_283.out _;(with_reducible repeat (first|refine kN ?_ _|refine kD ?_|refine kA ?_ _));refine blk_far ?_ NB250_283.out _;(with_reducible repeat (first|refine kN ?_ _|refine kD ?_|refine kA ?_ _));refine blk_far ?_ NB250_283.out _;(with_reducible repeat (first|refine kN ?_ _|refine kD ?_|refine kA ?_ _));exact BK250.out) hb);have n11_:=Am (blk_below (g:=gb283) (o:=.cells #[.bool t278,.int .i64 t279,.slice Ao99 t280.length co99] 63 (0,0)) (by (with_reducible repeat (first|refine kN ?_ _|refine kD ?_|refine kA ?_ _));refine blk_put (cs:=#[.bool t278,.int .i64 t279,.slice none 0 0]) ?_ 2 _ rfl;(with_reducible repeat (first|refine kN ?_ _|refine kD ?_|refine kA ?_ _));refine blk_put (cs:=#[.bool t278,.int .i64 0,.slice none 0 0]) ?_ 1 _ rfl;(with_reducible repeat (first|refine kN ?_ _|refine kD ?_|refine kA ?_ _));refine blk_put (cs:=#[.bool false,.int .i64 0,.slice none 0 0]) ?_ 0 _ rfl;(with_reducible repeat (first|refine kN ?_ _|refine kD ?_|refine kA ?_ _));exact BK283.out) hb);have n12_:=Am (below_step (by repeat (first|(with_reducible first|exact HB.out|apply bA|apply bN|apply bD|refine bS ?_ GE218.out|refine bS ?_ GE234.out|refine bS ?_ GE244.out|refine bS ?_ GE250.out|refine bS ?_ GE283.out)|exact HB.out)) hb);clear HO_235002;clear HO_245000;clear HO_245001;clear HO_251002;clear HO271;clear HO274;clear HO282;clear BK218;clear BK234;clear BK244;clear BK250;clear BK283;clear HB;have HO_235002:=n0_;have HO_245000:=n1_;have HO_245001:=n2_;have HO_251002:=n3_;have HO271:=n4_;have HO274:=n5_;have HO282:=n6_;have BK218:=n7_;have BK234:=n8_;have BK244:=n9_;have BK250:=n10_;have BK283:=n11_;have HB:=n12_;clear n0_ n1_ n2_ n3_ n4_ n5_ n6_ n7_ n8_ n9_ n10_ n11_ n12_;(try clear hb);(try clear hb2);(try clear hk);(try clear hi);have hcz103_0 : w102.cell? ⟨gb250,0,none⟩ = some (.bool t245):=(kC BK250.out 0).trans rfl;have hcz103_1 : w102.cell? ⟨gb250,1,none⟩ = some (.int .i64 t246):=(kC BK250.out 1).trans rfl;have hcz103_2 : w102.cell? ⟨gb250,2,none⟩ = some (.slice Ao47 t247.length co47):=(kC BK250.out 2).trans rfl;have hfz103_0:=kF BK250.out 0;have hfz103_1:=kF BK250.out 1;have hfz103_2:=kF BK250.out 2)|((with_reducible refine gate_callee (f:=54) rfl ?_);refine goesL_ (some 78) rfl rfl Try.func54 (by kernel_rfl) rfl #[.agg #[.bool t245,.int .i64 t246,.slice Ao47 t267.length co47],.int .i64 1] rfl (by (try simp only [List.map_toArray,List.map_cons,List.map_nil]);first|done|(rw [show t267.length = t247.length from (Kd.R_reads' HO_251002.out).1.symm] <;> rfl)|rfl|(simp only [List.length_drop,List.length_take];rfl)) ?_;(with_reducible refine (laws_heldRun.calls kj19 t245 t246 _ _ t267 1 t285 _ ?side1 ?side2 A76.out).mono ?_);(case side1 => repeat (first|exact (Kd.R_reads' HO_251002.out).2.2|(with_reducible refine Kd.C_alloc ?_ _)|(with_reducible refine Kd.C_drewN ?_ _)|(with_reducible refine Kd.C_drew ?_)));(case side2 => rw [show t267.length = t247.length from (Kd.R_reads' HO_251002.out).1.symm];exact (Kd.R_reads' HO_251002.out).2.1);rintro e w104 ⟨rfl,hb⟩;refine ⟨_,rfl,?_⟩;have n0_:=Am (Kd.R_below (by (with_reducible repeat (first|apply Kd.R_alloc|apply Kd.R_drewN|apply Kd.R_drew));exact HO_235002.out) hb);have n1_:=Am (Kd.R_below (by (with_reducible repeat (first|apply Kd.R_alloc|apply Kd.R_drewN|apply Kd.R_drew));exact HO_245000.out) hb);have n2_:=Am (Kd.R_below (by (with_reducible repeat (first|apply Kd.R_alloc|apply Kd.R_drewN|apply Kd.R_drew));exact HO_245001.out) hb);have n3_:=Am (Kd.R_below (by (with_reducible repeat (first|apply Kd.R_alloc|apply Kd.R_drewN|apply Kd.R_drew));exact HO_251002.out) hb);have n4_:=Am (Kd.R_below (by (with_reducible repeat (first|apply Kd.R_alloc|apply Kd.R_drewN|apply Kd.R_drew));exact HO271.out) hb);have n5_:=Am (Kd.R_below (by (with_reducible repeat (first|apply Kd.R_alloc|apply Kd.R_drewN|apply Kd.R_drew));exact HO274.out) hb);have n6_:=Am (Kd.R_below (by (with_reducible repeat (first|apply Kd.R_alloc|apply Kd.R_drewN|apply Kd.R_drew));exact HO282.out) hb);have n7_:=Am (blk_below (g:=gb218) (o:=.cells #[.slice A0_0 l0_0.length c0_0,.slice A0_1 l0_1.length c0_1,.int .i64 a0_2,.int .i64 a0_3,.int .i64 a0_4] 25 (0,0)) (by (with_reducible repeat (first|refine kN ?_ _|refine kD ?_|refine kA ?_ _));exact BK218.out) hb);have n8_:=Am (blk_below (g:=gb234) (o:=.cells #[.bool t229,.int .i64 t230,.slice Ao32 t231.length co32] 63 (0,0)) (by (with_reducible repeat (first|refine kN ?_ _|refine kD ?_|refine kA ?_ _));exact BK234.out) hb);have n9_:=Am (blk_below (g:=gb244) (o:=.cells #[.slice Ao36 t263.length co36,.slice Ao40 t264.length co40,.int .i64 t241,.int .i64 t242,.int .i64 t243] 31 (0,0)) (by (with_reducible repeat (first|refine kN ?_ _|refine kD ?_|refine kA ?_ _));exact BK244.out) hb);have n10_:=Am (blk_below (g:=gb250) (o:=.cells #[.bool t245,.int .i64 t246,.slice Ao47 t247.length co47] 63 (0,0)) (by (with_reducible repeat (first|refine kN ?_ _|refine kD ?_|refine kA ?_ _));exact BK250.out) hb);have n11_:=Am (blk_below (g:=gb283) (o:=.cells #[.bool t278,.int .i64 t279,.slice Ao99 t280.length co99] 63 (0,0)) (by (with_reducible repeat (first|refine kN ?_ _|refine kD ?_|refine kA ?_ _));exact BK283.out) hb);have n12_:=Am (below_step (by repeat (first|(with_reducible first|exact HB.out|apply bA|apply bN|apply bD|refine bS ?_ GE218.out|refine bS ?_ GE234.out|refine bS ?_ GE244.out|refine bS ?_ GE250.out|refine bS ?_ GE283.out)|exact HB.out)) hb);clear HO_235002;clear HO_245000;clear HO_245001;clear HO_251002;clear HO271;clear HO274;clear HO282;clear BK218;clear BK234;clear BK244;clear BK250;clear BK283;clear HB;have HO_235002:=n0_;have HO_245000:=n1_;have HO_245001:=n2_;have HO_251002:=n3_;have HO271:=n4_;have HO274:=n5_;have HO282:=n6_;have BK218:=n7_;have BK234:=n8_;have BK244:=n9_;have BK250:=n10_;have BK283:=n11_;have HB:=n12_;clear n0_ n1_ n2_ n3_ n4_ n5_ n6_ n7_ n8_ n9_ n10_ n11_ n12_;(try clear hb);(try clear hb2);(try clear hk);(try clear hi)))
            go_ret
            exact ⟨by first|rfl|(simp [errW_none,errW_some] <;> rfl)|(simp [*,errW_none,errW_some] <;> rfl),by repeat (first|(with_reducible first|exact HB.out|apply bA|apply bN|apply bD|refine bS ?_ GE218.out|refine bS ?_ GE234.out|refine bS ?_ GE244.out|refine bS ?_ GE250.out|refine bS ?_ GE283.out)|exact HB.out)⟩
           ·rw [if_neg c78] at H
            have c78b0 : (t285 == t266) = false:=beq_eq_false_iff_ne.mpr c78
            have c78b1 : (t285 != t266) = true:=bne_iff_ne.mpr c78
            exact absurd H (by rw [hrt.out];simp)
         ·replace c75:=Bool.eq_false_iff.mpr c75
          subst c75
          have H1 : (some false) = some r:=by rw [if_neg (show ¬ (false = true) by decide)] at H;exact H
          clear H
          have H:=H1
          clear H1
          exact absurd H (by rw [hrt.out];simp)
        ·rw [if_neg c71] at H
         have c71b0 : (t268 == t266) = false:=beq_eq_false_iff_ne.mpr c71
         have c71b1 : (t268 != t266) = true:=bne_iff_ne.mpr c71
         exact absurd H (by rw [hrt.out];simp)
   ·replace c18:=Bool.eq_false_iff.mpr c18
    subst c18
    have H1 : (some false) = some r:=by rw [if_neg (show ¬ (false = true) by decide)] at H;exact H
    clear H
    have H:=H1
    clear H1
    exact absurd H (by rw [hrt.out];simp)
  ·replace c15:=Bool.eq_false_iff.mpr c15
   subst c15
   have H1 : (some false) = some r:=by rw [if_neg (show ¬ (false = true) by decide)] at H;exact H
   clear H
   have H:=H1
   clear H1
   exact absurd H (by rw [hrt.out];simp)

end Go.Proofs.Ytgakkndbcilclaa.PG
