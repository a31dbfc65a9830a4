-- Written by a program of this session (wip/print/myprint.py) over the kit's print, with contracts of its own; not a text of print.sh's.
import Derived.Test.YtanjbdgmnecacaaDoorPTx0
import Derived.Test.YtanjbdgmnecacaaDoorPTx1
import Derived.Test.YtanjbdgmnecacaaDoorPTx2
namespace Go.Proofs.YtanjbdgmnecacaaDoor.PT
open Go.RowKit Go.Proofs.YtanjbdgmnecacaaDoorW.PrintWords Go.Proofs.YtanjbdgmnecacaaDoorW.PrintLast Go.Proofs.YtanjbdgmnecacaaDoorW.PrintMore
attribute [local go_sem] max2_int min2_int max_two min_two   -- for this text's walks alone
set_option linter.unusedVariables false
set_option linter.unusedSimpArgs false

attribute [local go_sem high] eqA49 eqA56
/-! ### laws_wProfile: function 8 -/
mutual
def laws_wProfile.j0 : Nat → Bool → List (S49) → List (S56) → Int → Int → Int → List (S49) → List (S56) → Int → Int → Int → Option (Bool)
 | 0,_,_,_,_,_,_,_,_,_,_,_ => none
 | k + 1,x43,x340000,x340001,x340002,x340003,x340004,x341000,x341001,x341002,x341003,x341004 => if x43 = true then (some false) else (laws_wProfile.l0 k (x340000.length : Int) 0 x340000 x340001 x340002 x340003 x340004 x341000 x341001 x341002 x341003 x341004)
def laws_wProfile.l0 : Nat → Int → Int → List (S49) → List (S56) → Int → Int → Int → List (S49) → List (S56) → Int → Int → Int → Option (Bool)
 | 0,_,_,_,_,_,_,_,_,_,_,_,_ => none
 | k + 1,x46,x47,x340000,x340001,x340002,x340003,x340004,x341000,x341001,x341002,x341003,x341004 => if x47 < x46 then (if 0 ≤ x47 then (if x47 < (x340000.length : Int) then (if x47 < (x341000.length : Int) then (if (!(((rd_T49 x340000 x47).f0) == ((rd_T49 x341000 x47).f0)) || (!(((rd_T49 x340000 x47).f1) == ((rd_T49 x341000 x47).f1)))) = true then (some false) else (laws_wProfile.l0 k x46 (wrap64 (x47 + 1)) x340000 x340001 x340002 x340003 x340004 x341000 x341001 x341002 x341003 x341004)) else (none)) else (none)) else (none)) else (laws_wProfile.l1 k (x340001.length : Int) 0 x340000 x340001 x340002 x340003 x340004 x341000 x341001 x341002 x341003 x341004)
def laws_wProfile.l1 : Nat → Int → Int → List (S49) → List (S56) → Int → Int → Int → List (S49) → List (S56) → Int → Int → Int → Option (Bool)
 | 0,_,_,_,_,_,_,_,_,_,_,_,_ => none
 | k + 1,x64,x65,x340000,x340001,x340002,x340003,x340004,x341000,x341001,x341002,x341003,x341004 => if x65 < x64 then (if 0 ≤ x65 then (if x65 < (x340001.length : Int) then (if x65 < (x341001.length : Int) then (if (!(((rd_T56 x340001 x65).f0) == ((rd_T56 x341001 x65).f0)) || (!(((rd_T56 x340001 x65).f1) == ((rd_T56 x341001 x65).f1)) || (!(((rd_T56 x340001 x65).f2) == ((rd_T56 x341001 x65).f2))))) = true then (some false) else (laws_wProfile.l1 k x64 (wrap64 (x65 + 1)) x340000 x340001 x340002 x340003 x340004 x341000 x341001 x341002 x341003 x341004)) else (none)) else (none)) else (none)) else (some true)
end
def laws_wProfile.f (k : Nat) (l0_0 : List (S49)) (l0_1 : List (S56)) (a0_2 : Int) (a0_3 : Int) (a0_4 : Int) (l1_0 : List (S49)) (l1_1 : List (S56)) (a1_2 : Int) (a1_3 : Int) (a1_4 : Int) : Option (Bool):=if (l0_0.length : Int) = (l1_0.length : Int) then (if (l0_1.length : Int) = (l1_1.length : Int) then (if a0_2 = a1_2 then (if a0_3 = a1_3 then (laws_wProfile.j0 k (a0_4 != a1_4) l0_0 l0_1 a0_2 a0_3 a0_4 l1_0 l1_1 a1_2 a1_3 a1_4) else (laws_wProfile.j0 k true l0_0 l0_1 a0_2 a0_3 a0_4 l1_0 l1_1 a1_2 a1_3 a1_4)) else (laws_wProfile.j0 k true l0_0 l0_1 a0_2 a0_3 a0_4 l1_0 l1_1 a1_2 a1_3 a1_4)) else (laws_wProfile.j0 k true l0_0 l0_1 a0_2 a0_3 a0_4 l1_0 l1_1 a1_2 a1_3 a1_4)) else (laws_wProfile.j0 k true l0_0 l0_1 a0_2 a0_3 a0_4 l1_0 l1_1 a1_2 a1_3 a1_4)
theorem laws_wProfile.mono_l : ∀ k,(∀ y0 y1 y2 y3 y4 y5 y6 y7 y8 y9 y10,LeO (laws_wProfile.j0 k y0 y1 y2 y3 y4 y5 y6 y7 y8 y9 y10) (laws_wProfile.j0 (k + 1) y0 y1 y2 y3 y4 y5 y6 y7 y8 y9 y10))∧(∀ y0 y1 y2 y3 y4 y5 y6 y7 y8 y9 y10 y11,LeO (laws_wProfile.l0 k y0 y1 y2 y3 y4 y5 y6 y7 y8 y9 y10 y11) (laws_wProfile.l0 (k + 1) y0 y1 y2 y3 y4 y5 y6 y7 y8 y9 y10 y11))∧(∀ y0 y1 y2 y3 y4 y5 y6 y7 y8 y9 y10 y11,LeO (laws_wProfile.l1 k y0 y1 y2 y3 y4 y5 y6 y7 y8 y9 y10 y11) (laws_wProfile.l1 (k + 1) y0 y1 y2 y3 y4 y5 y6 y7 y8 y9 y10 y11))
 | 0 => ⟨fun _ _ _ _ _ _ _ _ _ _ _ r h => by simp [laws_wProfile.j0] at h,fun _ _ _ _ _ _ _ _ _ _ _ _ r h => by simp [laws_wProfile.l0] at h,fun _ _ _ _ _ _ _ _ _ _ _ _ r h => by simp [laws_wProfile.l1] at h⟩
 | k + 1 => by
  obtain ⟨ih0,ih1,ih2⟩:=laws_wProfile.mono_l k;refine ⟨?_,?_,?_⟩
  ·intro y0 y1 y2 y3 y4 y5 y6 y7 y8 y9 y10;unfold laws_wProfile.j0
   repeat' first
   | (with_reducible exact ih0 _ _ _ _ _ _ _ _ _ _ _)
   | (with_reducible exact ih1 _ _ _ _ _ _ _ _ _ _ _ _)
   | (with_reducible exact ih2 _ _ _ _ _ _ _ _ _ _ _ _)
   | (with_reducible exact LeO.refl _)
   | (with_reducible exact LeO.none _)
   | (with_reducible refine LeO.ite ?_ ?_)
   | (with_reducible refine LeO.bind ?_ (fun _ => ?_))
   | exact ih0 _ _ _ _ _ _ _ _ _ _ _
   | exact ih1 _ _ _ _ _ _ _ _ _ _ _ _
   | exact ih2 _ _ _ _ _ _ _ _ _ _ _ _
   | exact LeO.none _
   | refine LeO.ite ?_ ?_
   | refine LeO.bind ?_ (fun _ => ?_)
  ·intro y0 y1 y2 y3 y4 y5 y6 y7 y8 y9 y10 y11;unfold laws_wProfile.l0
   repeat' first
   | (with_reducible exact ih0 _ _ _ _ _ _ _ _ _ _ _)
   | (with_reducible exact ih1 _ _ _ _ _ _ _ _ _ _ _ _)
   | (with_reducible exact ih2 _ _ _ _ _ _ _ _ _ _ _ _)
   | (with_reducible exact LeO.refl _)
   | (with_reducible exact LeO.none _)
   | (with_reducible refine LeO.ite ?_ ?_)
   | (with_reducible refine LeO.bind ?_ (fun _ => ?_))
   | exact ih0 _ _ _ _ _ _ _ _ _ _ _
   | exact ih1 _ _ _ _ _ _ _ _ _ _ _ _
   | exact ih2 _ _ _ _ _ _ _ _ _ _ _ _
   | exact LeO.none _
   | refine LeO.ite ?_ ?_
   | refine LeO.bind ?_ (fun _ => ?_)
  ·intro y0 y1 y2 y3 y4 y5 y6 y7 y8 y9 y10 y11;unfold laws_wProfile.l1
   repeat' first
   | (with_reducible exact ih0 _ _ _ _ _ _ _ _ _ _ _)
   | (with_reducible exact ih1 _ _ _ _ _ _ _ _ _ _ _ _)
   | (with_reducible exact ih2 _ _ _ _ _ _ _ _ _ _ _ _)
   | (with_reducible exact LeO.refl _)
   | (with_reducible exact LeO.none _)
   | (with_reducible refine LeO.ite ?_ ?_)
   | (with_reducible refine LeO.bind ?_ (fun _ => ?_))
   | exact ih0 _ _ _ _ _ _ _ _ _ _ _
   | exact ih1 _ _ _ _ _ _ _ _ _ _ _ _
   | exact ih2 _ _ _ _ _ _ _ _ _ _ _ _
   | exact LeO.none _
   | refine LeO.ite ?_ ?_
   | refine LeO.bind ?_ (fun _ => ?_)
theorem laws_wProfile.mono : ∀ a0 a1 a2 a3 a4 a5 a6 a7 a8 a9 k,LeO (laws_wProfile.f k a0 a1 a2 a3 a4 a5 a6 a7 a8 a9) (laws_wProfile.f (k + 1) a0 a1 a2 a3 a4 a5 a6 a7 a8 a9):=by
 intro a0 a1 a2 a3 a4 a5 a6 a7 a8 a9 k;obtain ⟨ih0,ih1,ih2⟩:=laws_wProfile.mono_l k;unfold laws_wProfile.f
 repeat' first
   | (with_reducible exact ih0 _ _ _ _ _ _ _ _ _ _ _)
   | (with_reducible exact ih1 _ _ _ _ _ _ _ _ _ _ _ _)
   | (with_reducible exact ih2 _ _ _ _ _ _ _ _ _ _ _ _)
   | (with_reducible exact LeO.refl _)
   | (with_reducible exact LeO.none _)
   | (with_reducible refine LeO.ite ?_ ?_)
   | (with_reducible refine LeO.bind ?_ (fun _ => ?_))
   | exact ih0 _ _ _ _ _ _ _ _ _ _ _
   | exact ih1 _ _ _ _ _ _ _ _ _ _ _ _
   | exact ih2 _ _ _ _ _ _ _ _ _ _ _ _
   | exact LeO.none _
   | refine LeO.ite ?_ ?_
   | refine LeO.bind ?_ (fun _ => ?_)
set_option maxHeartbeats 8000000 in
set_option maxRecDepth 100000 in
theorem laws_wProfile.calls (k : Nat) (A0_0 : Option Addr) (c0_0 : Nat) (l0_0 : List (S49)) (A0_1 : Option Addr) (c0_1 : Nat) (l0_1 : List (S56)) (a0_2 : Int) (a0_3 : Int) (a0_4 : Int) (A1_0 : Option Addr) (c1_0 : Nat) (l1_0 : List (S49)) (A1_1 : Option Addr) (c1_1 : Nat) (l1_1 : List (S56)) (a1_2 : Int) (a1_3 : Int) (a1_4 : Int) (r : Bool) (w : World) (hr0_0 : Kd.C k49 w A0_0 l0_0.length l0_0) (hc0_0 : l0_0.length ≤ c0_0) (hr0_1 : Kd.C k56 w A0_1 l0_1.length l0_1) (hc0_1 : l0_1.length ≤ c0_1) (hr1_0 : Kd.C k49 w A1_0 l1_0.length l1_0) (hc1_0 : l1_0.length ≤ c1_0) (hr1_1 : Kd.C k56 w A1_1 l1_1.length l1_1) (hc1_1 : l1_1.length ≤ c1_1) (h : laws_wProfile.f k l0_0 l0_1 a0_2 a0_3 a0_4 l1_0 l1_1 a1_2 a1_3 a1_4 = some r) :
  Calls Tryd.prog 8 #[.agg #[.slice A0_0 l0_0.length c0_0,.slice A0_1 l0_1.length c0_1,.int .i64 a0_2,.int .i64 a0_3,.int .i64 a0_4],.agg #[.slice A1_0 l1_0.length c1_0,.slice A1_1 l1_1.length c1_1,.int .i64 a1_2,.int .i64 a1_3,.int .i64 a1_4]] w fun e w' => e = .returned (.bool r)∧Below w.heap.size w w':=by
 have hu26:=Tryd.underlying26;have hu49:=Tryd.underlying49;have hu56:=Tryd.underlying56;have HR0_0:=Am hr0_0;have HC0_0:=Am hc0_0;clear hr0_0 hc0_0;have HR0_1:=Am hr0_1;have HC0_1:=Am hc0_1;clear hr0_1 hc0_1;have HR1_0:=Am hr1_0;have HC1_0:=Am hc1_0;clear hr1_0 hc1_0;have HR1_1:=Am hr1_1;have HC1_1:=Am hc1_1;clear hr1_1 hc1_1;have HB:=Am (Below.refl w.heap.size w);have H : (if (l0_0.length : Int) = (l1_0.length : Int) then (if (l0_1.length : Int) = (l1_1.length : Int) then (if a0_2 = a1_2 then (if a0_3 = a1_3 then (laws_wProfile.j0 k (a0_4 != a1_4) l0_0 l0_1 a0_2 a0_3 a0_4 l1_0 l1_1 a1_2 a1_3 a1_4) else (laws_wProfile.j0 k true l0_0 l0_1 a0_2 a0_3 a0_4 l1_0 l1_1 a1_2 a1_3 a1_4)) else (laws_wProfile.j0 k true l0_0 l0_1 a0_2 a0_3 a0_4 l1_0 l1_1 a1_2 a1_3 a1_4)) else (laws_wProfile.j0 k true l0_0 l0_1 a0_2 a0_3 a0_4 l1_0 l1_1 a1_2 a1_3 a1_4)) else (laws_wProfile.j0 k true l0_0 l0_1 a0_2 a0_3 a0_4 l1_0 l1_1 a1_2 a1_3 a1_4)) = some r:=h;clear h;have HC3:=Am H;clear H
 go_enter Tryd.func8,Tryd.ntmps8
 go_upto_region 1 with (first|((with_reducible refine gate_dst (N:=2) rfl ?_);(try (refine gate_guard (by rfl) ?_;dsimp only));refine box_event ?hg (N:=2) ?hd (cs:=#[.slice A0_0 l0_0.length c0_0,.slice A0_1 l0_1.length c0_1,.int .i64 a0_2,.int .i64 a0_3,.int .i64 a0_4]) (t:=26) ?hr ?_;(case hd => rfl);(case hg => rfl);(case hr => first|(go_simp;done)|(go_simp;rfl));intro gb339 hg w4 hbox hb;have n0_:=Am (below_step (bL HB) hb);have n1_:=Am (hbox);have n2_:=Am ((gS_ hg HB));have n3_:=Am ((gS_ hg HB));clear HB;have HB:=n0_;have BK339:=n1_;have GW339:=n2_;have GE339:=n3_;clear n0_ n1_ n2_ n3_;clear hb hbox hg)|((with_reducible refine gate_dst (N:=3) rfl ?_);(try (refine gate_guard (by rfl) ?_;dsimp only));refine box_event ?hg (N:=3) ?hd (cs:=#[.slice A1_0 l1_0.length c1_0,.slice A1_1 l1_1.length c1_1,.int .i64 a1_2,.int .i64 a1_3,.int .i64 a1_4]) (t:=26) ?hr ?_;(case hd => rfl);(case hg => rfl);(case hr => first|(go_simp;done)|(go_simp;rfl));intro gb340 hg w5 hbox hb;have n0_:=Am (kB_ BK339 hb);have n1_:=Am (below_step (bL HB) hb);have n2_:=Am (hbox);have n3_:=Am ((gS_ hg HB));have n4_:=Am ((gS_ hg HB));have n5_:=Am ((gM_ hg BK339));have n6_:=Am ((gN_ hg BK339));clear BK339;clear HB;have BK339:=n0_;have HB:=n1_;have BK340:=n2_;have GW340:=n3_;have GE340:=n4_;have NB339_340:=n5_;have NB340_339:=n6_;clear n0_ n1_ n2_ n3_ n4_ n5_ n6_;clear hb hbox hg))
 repeat (go_quiet (first|((with_reducible refine gate_dst (N:=2) rfl ?_);(try (refine gate_guard (by rfl) ?_;dsimp only));refine box_event ?hg (N:=2) ?hd (cs:=#[.slice A0_0 l0_0.length c0_0,.slice A0_1 l0_1.length c0_1,.int .i64 a0_2,.int .i64 a0_3,.int .i64 a0_4]) (t:=26) ?hr ?_;(case hd => rfl);(case hg => rfl);(case hr => first|(go_simp;done)|(go_simp;rfl));intro gb339 hg w4 hbox hb;have n0_:=Am (below_step (bL HB) hb);have n1_:=Am (hbox);have n2_:=Am ((gS_ hg HB));have n3_:=Am ((gS_ hg HB));clear HB;have HB:=n0_;have BK339:=n1_;have GW339:=n2_;have GE339:=n3_;clear n0_ n1_ n2_ n3_;clear hb hbox hg)|((with_reducible refine gate_dst (N:=3) rfl ?_);(try (refine gate_guard (by rfl) ?_;dsimp only));refine box_event ?hg (N:=3) ?hd (cs:=#[.slice A1_0 l1_0.length c1_0,.slice A1_1 l1_1.length c1_1,.int .i64 a1_2,.int .i64 a1_3,.int .i64 a1_4]) (t:=26) ?hr ?_;(case hd => rfl);(case hg => rfl);(case hr => first|(go_simp;done)|(go_simp;rfl));intro gb340 hg w5 hbox hb;have n0_:=Am (kB_ BK339 hb);have n1_:=Am (below_step (bL HB) hb);have n2_:=Am (hbox);have n3_:=Am ((gS_ hg HB));have n4_:=Am ((gS_ hg HB));have n5_:=Am ((gM_ hg BK339));have n6_:=Am ((gN_ hg BK339));clear BK339;clear HB;have BK339:=n0_;have HB:=n1_;have BK340:=n2_;have GW340:=n3_;have GE340:=n4_;have NB339_340:=n5_;have NB340_339:=n6_;clear n0_ n1_ n2_ n3_ n4_ n5_ n6_;clear hb hbox hg));go_upto_region 1 with (first|((with_reducible refine gate_dst (N:=2) rfl ?_);(try (refine gate_guard (by rfl) ?_;dsimp only));refine box_event ?hg (N:=2) ?hd (cs:=#[.slice A0_0 l0_0.length c0_0,.slice A0_1 l0_1.length c0_1,.int .i64 a0_2,.int .i64 a0_3,.int .i64 a0_4]) (t:=26) ?hr ?_;(case hd => rfl);(case hg => rfl);(case hr => first|(go_simp;done)|(go_simp;rfl));intro gb339 hg w4 hbox hb;have n0_:=Am (below_step (bL HB) hb);have n1_:=Am (hbox);have n2_:=Am ((gS_ hg HB));have n3_:=Am ((gS_ hg HB));clear HB;have HB:=n0_;have BK339:=n1_;have GW339:=n2_;have GE339:=n3_;clear n0_ n1_ n2_ n3_;clear hb hbox hg)|((with_reducible refine gate_dst (N:=3) rfl ?_);(try (refine gate_guard (by rfl) ?_;dsimp only));refine box_event ?hg (N:=3) ?hd (cs:=#[.slice A1_0 l1_0.length c1_0,.slice A1_1 l1_1.length c1_1,.int .i64 a1_2,.int .i64 a1_3,.int .i64 a1_4]) (t:=26) ?hr ?_;(case hd => rfl);(case hg => rfl);(case hr => first|(go_simp;done)|(go_simp;rfl));intro gb340 hg w5 hbox hb;have n0_:=Am (kB_ BK339 hb);have n1_:=Am (below_step (bL HB) hb);have n2_:=Am (hbox);have n3_:=Am ((gS_ hg HB));have n4_:=Am ((gS_ hg HB));have n5_:=Am ((gM_ hg BK339));have n6_:=Am ((gN_ hg BK339));clear BK339;clear HB;have BK339:=n0_;have HB:=n1_;have BK340:=n2_;have GW340:=n3_;have GE340:=n4_;have NB339_340:=n5_;have NB340_339:=n6_;clear n0_ n1_ n2_ n3_ n4_ n5_ n6_;clear hb hbox hg)))
 (try simp only [Act.put,List.setIfInBounds_toArray,List.set_cons_zero,List.set_cons_succ])
 go_cut [43] (fun v43 wc => ∃ (kq : Nat) (x43_2 : Bool),v43 = .bool x43_2∧As (laws_wProfile.j0 kq x43_2 l0_0 l0_1 a0_2 a0_3 a0_4 l1_0 l1_1 a1_2 a1_3 a1_4 = some r)∧As (kq ≤ k)∧As (wc.heap[gb339]? = some (.cells #[(.slice A0_0 l0_0.length c0_0),(.slice A0_1 l0_1.length c0_1),.int .i64 a0_2,.int .i64 a0_3,.int .i64 a0_4] 26 (0,0)))∧As (wc.heap[gb340]? = some (.cells #[(.slice A1_0 l1_0.length c1_0),(.slice A1_1 l1_1.length c1_1),.int .i64 a1_2,.int .i64 a1_3,.int .i64 a1_4] 26 (0,0)))∧As (Below w.heap.size w wc))
 case first =>
  have H:=HC3.out;clear HC3
  by_cases c6 : (l0_0.length : Int) = (l1_0.length : Int)
  ·rw [if_pos c6] at H;have c6b0 : ((l0_0.length : Int) == (l1_0.length : Int)) = true:=beq_iff_eq.mpr c6;have c6b1 : ((l0_0.length : Int) != (l1_0.length : Int)) = false:=bne_eq_false_iff_eq.mpr c6
   have c6b2 : (l0_0.length == l1_0.length) = true:=by first|simpa using c6|(simp at c6 ⊢;omega)
   clear c6
   (first|rw [c6b0]|(simp only [i64_w,i32_w];rw [c6b0])|skip)
   by_cases c7 : (l0_1.length : Int) = (l1_1.length : Int)
   ·rw [if_pos c7] at H;have c7b0 : ((l0_1.length : Int) == (l1_1.length : Int)) = true:=beq_iff_eq.mpr c7;have c7b1 : ((l0_1.length : Int) != (l1_1.length : Int)) = false:=bne_eq_false_iff_eq.mpr c7
    have c7b2 : (l0_1.length == l1_1.length) = true:=by first|simpa using c7|(simp at c7 ⊢;omega)
    clear c7
    by_cases c8 : a0_2 = a1_2
    ·rw [if_pos c8] at H;have c8b0 : (a0_2 == a1_2) = true:=beq_iff_eq.mpr c8;have c8b1 : (a0_2 != a1_2) = false:=bne_eq_false_iff_eq.mpr c8;clear c8
     by_cases c9 : a0_3 = a1_3
     ·rw [if_pos c9] at H;have c9b0 : (a0_3 == a1_3) = true:=beq_iff_eq.mpr c9;have c9b1 : (a0_3 != a1_3) = false:=bne_eq_false_iff_eq.mpr c9;clear c9;have H':=Am H;clear H;have hnb10:=NB339_340.out;have hnc10:=NB340_339.out;have hcz11_0:=cC_ BK339 0 rfl;have hcz11_1:=cC_ BK339 1 rfl;have hcz11_2:=cC_ BK339 2 rfl;have hcz11_3:=cC_ BK339 3 rfl;have hcz11_4:=cC_ BK339 4 rfl;have hfz11_0:=kF BK339.out 0;have hfz11_1:=kF BK339.out 1;have hfz11_2:=kF BK339.out 2;have hfz11_3:=kF BK339.out 3;have hfz11_4:=kF BK339.out 4;have hcz12_0:=cC_ BK340 0 rfl;have hcz12_1:=cC_ BK340 1 rfl;have hcz12_2:=cC_ BK340 2 rfl;have hcz12_3:=cC_ BK340 3 rfl;have hcz12_4:=cC_ BK340 4 rfl;have hfz12_0:=kF BK340.out 0;have hfz12_1:=kF BK340.out 1;have hfz12_2:=kF BK340.out 2;have hfz12_3:=kF BK340.out 3;have hfz12_4:=kF BK340.out 4;go_wp2
      repeat (go_quiet (fail);try go_wp2)
      go_meet
      case rel => exact ⟨_,((a0_4 != a1_4)),vL_,H',⟨by first|omega|exact Nat.le_refl _⟩,⟨kL BK339⟩,⟨kL BK340⟩,⟨bL HB⟩⟩
     ·rw [if_neg c9] at H;have c9b0 : (a0_3 == a1_3) = false:=beq_eq_false_iff_ne.mpr c9;have c9b1 : (a0_3 != a1_3) = true:=bne_iff_ne.mpr c9;have H':=Am H;clear H;have hnb13:=NB339_340.out;have hnc13:=NB340_339.out;have hcz14_0:=cC_ BK339 0 rfl;have hcz14_1:=cC_ BK339 1 rfl;have hcz14_2:=cC_ BK339 2 rfl;have hcz14_3:=cC_ BK339 3 rfl;have hcz14_4:=cC_ BK339 4 rfl;have hfz14_0:=kF BK339.out 0;have hfz14_1:=kF BK339.out 1;have hfz14_2:=kF BK339.out 2;have hfz14_3:=kF BK339.out 3;have hfz14_4:=kF BK339.out 4;have hcz15_0:=cC_ BK340 0 rfl;have hcz15_1:=cC_ BK340 1 rfl;have hcz15_2:=cC_ BK340 2 rfl;have hcz15_3:=cC_ BK340 3 rfl;have hcz15_4:=cC_ BK340 4 rfl;have hfz15_0:=kF BK340.out 0;have hfz15_1:=kF BK340.out 1;have hfz15_2:=kF BK340.out 2;have hfz15_3:=kF BK340.out 3;have hfz15_4:=kF BK340.out 4;go_wp2
      repeat (go_quiet (fail);try go_wp2)
      go_meet
      case rel => exact ⟨_,(true),vL_,H',⟨by first|omega|exact Nat.le_refl _⟩,⟨kL BK339⟩,⟨kL BK340⟩,⟨bL HB⟩⟩
    ·rw [if_neg c8] at H;have c8b0 : (a0_2 == a1_2) = false:=beq_eq_false_iff_ne.mpr c8;have c8b1 : (a0_2 != a1_2) = true:=bne_iff_ne.mpr c8;have H':=Am H;clear H;have hnb16:=NB339_340.out;have hnc16:=NB340_339.out;have hcz17_0:=cC_ BK339 0 rfl;have hcz17_1:=cC_ BK339 1 rfl;have hcz17_2:=cC_ BK339 2 rfl;have hcz17_3:=cC_ BK339 3 rfl;have hcz17_4:=cC_ BK339 4 rfl;have hfz17_0:=kF BK339.out 0;have hfz17_1:=kF BK339.out 1;have hfz17_2:=kF BK339.out 2;have hfz17_3:=kF BK339.out 3;have hfz17_4:=kF BK339.out 4;have hcz18_0:=cC_ BK340 0 rfl;have hcz18_1:=cC_ BK340 1 rfl;have hcz18_2:=cC_ BK340 2 rfl;have hcz18_3:=cC_ BK340 3 rfl;have hcz18_4:=cC_ BK340 4 rfl;have hfz18_0:=kF BK340.out 0;have hfz18_1:=kF BK340.out 1;have hfz18_2:=kF BK340.out 2;have hfz18_3:=kF BK340.out 3;have hfz18_4:=kF BK340.out 4;go_wp2
     repeat (go_quiet (fail);try go_wp2)
     go_meet
     case rel => exact ⟨_,(true),vL_,H',⟨by first|omega|exact Nat.le_refl _⟩,⟨kL BK339⟩,⟨kL BK340⟩,⟨bL HB⟩⟩
   ·rw [if_neg c7] at H;have c7b0 : ((l0_1.length : Int) == (l1_1.length : Int)) = false:=beq_eq_false_iff_ne.mpr c7;have c7b1 : ((l0_1.length : Int) != (l1_1.length : Int)) = true:=bne_iff_ne.mpr c7
    have c7b2 : (l0_1.length == l1_1.length) = false:=by first|simpa using c7|(simp at c7 ⊢;omega)
    have H':=Am H;clear H;have hnb19:=NB339_340.out;have hnc19:=NB340_339.out;have hcz20_0:=cC_ BK339 0 rfl;have hcz20_1:=cC_ BK339 1 rfl;have hcz20_2:=cC_ BK339 2 rfl;have hcz20_3:=cC_ BK339 3 rfl;have hcz20_4:=cC_ BK339 4 rfl;have hfz20_0:=kF BK339.out 0;have hfz20_1:=kF BK339.out 1;have hfz20_2:=kF BK339.out 2;have hfz20_3:=kF BK339.out 3;have hfz20_4:=kF BK339.out 4;have hcz21_0:=cC_ BK340 0 rfl;have hcz21_1:=cC_ BK340 1 rfl;have hcz21_2:=cC_ BK340 2 rfl;have hcz21_3:=cC_ BK340 3 rfl;have hcz21_4:=cC_ BK340 4 rfl;have hfz21_0:=kF BK340.out 0;have hfz21_1:=kF BK340.out 1;have hfz21_2:=kF BK340.out 2;have hfz21_3:=kF BK340.out 3;have hfz21_4:=kF BK340.out 4;go_wp2
    repeat (go_quiet (fail);try go_wp2)
    go_meet
    case rel => exact ⟨_,(true),vL_,H',⟨by first|omega|exact Nat.le_refl _⟩,⟨kL BK339⟩,⟨kL BK340⟩,⟨bL HB⟩⟩
  ·rw [if_neg c6] at H;have c6b0 : ((l0_0.length : Int) == (l1_0.length : Int)) = false:=beq_eq_false_iff_ne.mpr c6;have c6b1 : ((l0_0.length : Int) != (l1_0.length : Int)) = true:=bne_iff_ne.mpr c6
   have c6b2 : (l0_0.length == l1_0.length) = false:=by first|simpa using c6|(simp at c6 ⊢;omega)
   (first|rw [c6b0]|(simp only [i64_w,i32_w];rw [c6b0])|skip)
   have H':=Am H;clear H;have hnb22:=NB339_340.out;have hnc22:=NB340_339.out;have hcz23_0:=cC_ BK339 0 rfl;have hcz23_1:=cC_ BK339 1 rfl;have hcz23_2:=cC_ BK339 2 rfl;have hcz23_3:=cC_ BK339 3 rfl;have hcz23_4:=cC_ BK339 4 rfl;have hfz23_0:=kF BK339.out 0;have hfz23_1:=kF BK339.out 1;have hfz23_2:=kF BK339.out 2;have hfz23_3:=kF BK339.out 3;have hfz23_4:=kF BK339.out 4;have hcz24_0:=cC_ BK340 0 rfl;have hcz24_1:=cC_ BK340 1 rfl;have hcz24_2:=cC_ BK340 2 rfl;have hcz24_3:=cC_ BK340 3 rfl;have hcz24_4:=cC_ BK340 4 rfl;have hfz24_0:=kF BK340.out 0;have hfz24_1:=kF BK340.out 1;have hfz24_2:=kF BK340.out 2;have hfz24_3:=kF BK340.out 3;have hfz24_4:=kF BK340.out 4;go_wp2
   repeat (go_quiet (fail);try go_wp2)
   go_meet
   case rel => exact ⟨_,(true),vL_,H',⟨by first|omega|exact Nat.le_refl _⟩,⟨kL BK339⟩,⟨kL BK340⟩,⟨bL HB⟩⟩
 case rest =>
  clear HC3;(try clear c1);(try clear c2);(try clear p2);(try clear c6);(try clear c6b0);(try clear c6b1);(try clear c6b2);(try clear c7);(try clear c7b0);(try clear c7b1);(try clear c7b2);(try clear c8);(try clear c8b0);(try clear c8b1);(try clear c9);(try clear c9b0);(try clear c9b1);(try clear c10);(try clear c13);(try clear c16);(try clear c19);(try clear c22);(try clear hcz11_0 hcz11_1 hcz11_2 hcz11_3 hcz11_4 hcz12_0 hcz12_1 hcz12_2 hcz12_3 hcz12_4 hcz14_0 hcz14_1 hcz14_2 hcz14_3 hcz14_4 hcz15_0 hcz15_1 hcz15_2 hcz15_3 hcz15_4 hcz17_0 hcz17_1 hcz17_2 hcz17_3 hcz17_4 hcz18_0 hcz18_1 hcz18_2 hcz18_3 hcz18_4 hcz20_0 hcz20_1 hcz20_2 hcz20_3 hcz20_4 hcz21_0 hcz21_1 hcz21_2 hcz21_3 hcz21_4 hcz23_0 hcz23_1 hcz23_2 hcz23_3 hcz23_4 hcz24_0 hcz24_1 hcz24_2 hcz24_3 hcz24_4 hfz11_0 hfz11_1 hfz11_2 hfz11_3 hfz11_4 hfz12_0 hfz12_1 hfz12_2 hfz12_3 hfz12_4 hfz14_0 hfz14_1 hfz14_2 hfz14_3 hfz14_4 hfz15_0 hfz15_1 hfz15_2 hfz15_3 hfz15_4 hfz17_0 hfz17_1 hfz17_2 hfz17_3 hfz17_4 hfz18_0 hfz18_1 hfz18_2 hfz18_3 hfz18_4 hfz20_0 hfz20_1 hfz20_2 hfz20_3 hfz20_4 hfz21_0 hfz21_1 hfz21_2 hfz21_3 hfz21_4 hfz23_0 hfz23_1 hfz23_2 hfz23_3 hfz23_4 hfz24_0 hfz24_1 hfz24_2 hfz24_3 hfz24_4);obtain ⟨kq,x43_2,rfl,HA,HJ2,BK339,BK340,HB⟩:=hcut
  cases kq with
  | zero => exact absurd HA.out (by simp [laws_wProfile.j0])
  | succ kj2 =>
   have H:=HA.out;clear HA;simp only [laws_wProfile.j0] at H
   by_cases c25 : x43_2 = true
   ·subst c25
    rw [if_pos rfl] at H;obtain rfl:=Option.some.inj H;go_wp2
    repeat (go_quiet (fail);try go_wp2)
    go_ret;exact ⟨eL_,bL HB⟩
   ·replace c25:=Bool.eq_false_iff.mpr c25;subst c25
    rw [if_neg (show ¬ (false = true) by decide)] at H;have H':=Am H;clear H;have hnb26:=NB339_340.out;have hnc26:=NB340_339.out;have hcz27_0:=cC_ BK339 0 rfl;have hcz27_1:=cC_ BK339 1 rfl;have hcz27_2:=cC_ BK339 2 rfl;have hcz27_3:=cC_ BK339 3 rfl;have hcz27_4:=cC_ BK339 4 rfl;have hfz27_0:=kF BK339.out 0;have hfz27_1:=kF BK339.out 1;have hfz27_2:=kF BK339.out 2;have hfz27_3:=kF BK339.out 3;have hfz27_4:=kF BK339.out 4;go_wp2
    repeat (go_quiet (fail);try go_wp2)
    go_loopg [47] kj2 (fun kq v47 w' => ∃ (x47_2 : Int),v47 = .int .i64 x47_2∧As (laws_wProfile.l0 kq (l0_0.length : Int) x47_2 l0_0 l0_1 a0_2 a0_3 a0_4 l1_0 l1_1 a1_2 a1_3 a1_4 = some r)∧As (kq ≤ kj2)∧As (w'.heap[gb339]? = some (.cells #[(.slice A0_0 l0_0.length c0_0),(.slice A0_1 l0_1.length c0_1),.int .i64 a0_2,.int .i64 a0_3,.int .i64 a0_4] 26 (0,0)))∧As (w'.heap[gb340]? = some (.cells #[(.slice A1_0 l1_0.length c1_0),(.slice A1_1 l1_1.length c1_1),.int .i64 a1_2,.int .i64 a1_3,.int .i64 a1_4] 26 (0,0)))∧As (Below w.heap.size w w'))
    case atStart => exact ⟨(0),vL_,H',⟨Nat.le_refl _⟩,⟨kL BK339⟩,⟨kL BK340⟩,⟨bL HB⟩⟩
    case round =>
     clear H';(try clear c1);(try clear c2);(try clear p2);(try clear c6);(try clear c6b0);(try clear c6b1);(try clear c6b2);(try clear c7);(try clear c7b0);(try clear c7b1);(try clear c7b2);(try clear c8);(try clear c8b0);(try clear c8b1);(try clear c9);(try clear c9b0);(try clear c9b1);(try clear c10);(try clear c13);(try clear c16);(try clear c19);(try clear c22);(try clear c25);(try clear c26);(try clear hcz11_0 hcz11_1 hcz11_2 hcz11_3 hcz11_4 hcz12_0 hcz12_1 hcz12_2 hcz12_3 hcz12_4 hcz14_0 hcz14_1 hcz14_2 hcz14_3 hcz14_4 hcz15_0 hcz15_1 hcz15_2 hcz15_3 hcz15_4 hcz17_0 hcz17_1 hcz17_2 hcz17_3 hcz17_4 hcz18_0 hcz18_1 hcz18_2 hcz18_3 hcz18_4 hcz20_0 hcz20_1 hcz20_2 hcz20_3 hcz20_4 hcz21_0 hcz21_1 hcz21_2 hcz21_3 hcz21_4 hcz23_0 hcz23_1 hcz23_2 hcz23_3 hcz23_4 hcz24_0 hcz24_1 hcz24_2 hcz24_3 hcz24_4 hcz27_0 hcz27_1 hcz27_2 hcz27_3 hcz27_4 hfz11_0 hfz11_1 hfz11_2 hfz11_3 hfz11_4 hfz12_0 hfz12_1 hfz12_2 hfz12_3 hfz12_4 hfz14_0 hfz14_1 hfz14_2 hfz14_3 hfz14_4 hfz15_0 hfz15_1 hfz15_2 hfz15_3 hfz15_4 hfz17_0 hfz17_1 hfz17_2 hfz17_3 hfz17_4 hfz18_0 hfz18_1 hfz18_2 hfz18_3 hfz18_4 hfz20_0 hfz20_1 hfz20_2 hfz20_3 hfz20_4 hfz21_0 hfz21_1 hfz21_2 hfz21_3 hfz21_4 hfz23_0 hfz23_1 hfz23_2 hfz23_3 hfz23_4 hfz24_0 hfz24_1 hfz24_2 hfz24_3 hfz24_4 hfz27_0 hfz27_1 hfz27_2 hfz27_3 hfz27_4);(try clear p2);obtain ⟨x47_2,rfl,HA,HK2,BK339,BK340,HB⟩:=hrel
     cases gk with
     | zero => exact absurd HA.out (by simp [laws_wProfile.l0])
     | succ k2 =>
      have H:=HA.out;clear HA;simp only [laws_wProfile.l0] at H
      by_cases c28 : x47_2 < (l0_0.length : Int)
      ·rw [if_pos c28] at H;have c28b0 : decide (x47_2 < (l0_0.length : Int)) = true:=decide_eq_true c28;clear c28
       by_cases c29 : 0 ≤ x47_2
       ·rw [if_pos c29] at H;have c29b0 : decide (0 ≤ x47_2) = true:=decide_eq_true c29;clear c29
        by_cases c30 : x47_2 < (l0_0.length : Int)
        ·rw [if_pos c30] at H;have c30b0 : decide (x47_2 < (l0_0.length : Int)) = true:=decide_eq_true c30;clear c30
         by_cases c31 : x47_2 < (l1_0.length : Int)
         ·rw [if_pos c31] at H;have c31b0 : decide (x47_2 < (l1_0.length : Int)) = true:=decide_eq_true c31;clear c31
          by_cases c32 : (!(((rd_T49 l0_0 x47_2).f0) == ((rd_T49 l1_0 x47_2).f0)) || (!(((rd_T49 l0_0 x47_2).f1) == ((rd_T49 l1_0 x47_2).f1)))) = true
          ·rw [if_pos c32] at H;have c32b0 : (!(((rd_T49 l0_0 x47_2).f0) == ((rd_T49 l1_0 x47_2).f0)) || (!(((rd_T49 l0_0 x47_2).f1) == ((rd_T49 l1_0 x47_2).f1)))) = true:=c32;clear c32;obtain rfl:=Option.some.inj H;have hnb33:=NB339_340.out;have hnc33:=NB340_339.out;have hcz34_0:=cC_ BK339 0 rfl;have hcz34_1:=cC_ BK339 1 rfl;have hcz34_2:=cC_ BK339 2 rfl;have hcz34_3:=cC_ BK339 3 rfl;have hcz34_4:=cC_ BK339 4 rfl;have hfz34_0:=kF BK339.out 0;have hfz34_1:=kF BK339.out 1;have hfz34_2:=kF BK339.out 2;have hfz34_3:=kF BK339.out 3;have hfz34_4:=kF BK339.out 4;have p341 : 0 ≤ (x47_2 : Int):=of_decide_eq_true (by first|(with_reducible assumption)|assumption);have q341 : x47_2 < (l0_0.length : Int):=of_decide_eq_true (by first|(with_reducible assumption)|assumption);obtain ⟨ad341,e341,hx341_0,hx341_1⟩:=at_T49 HR0_0.out x47_2 p341 q341;cases e341;replace hx341_0:=(HB.out.cell (World.block_lt_of_cell? w _ hx341_0)).trans hx341_0;replace hx341_1:=(HB.out.cell (World.block_lt_of_cell? w _ hx341_1)).trans hx341_1;replace p341:=eq_true p341;replace q341:=eq_true q341;have hcz35_0:=cC_ BK340 0 rfl;have hcz35_1:=cC_ BK340 1 rfl;have hcz35_2:=cC_ BK340 2 rfl;have hcz35_3:=cC_ BK340 3 rfl;have hcz35_4:=cC_ BK340 4 rfl;have hfz35_0:=kF BK340.out 0;have hfz35_1:=kF BK340.out 1;have hfz35_2:=kF BK340.out 2;have hfz35_3:=kF BK340.out 3;have hfz35_4:=kF BK340.out 4;have p342 : 0 ≤ (x47_2 : Int):=of_decide_eq_true (by first|(with_reducible assumption)|assumption);have q342 : x47_2 < (l1_0.length : Int):=of_decide_eq_true (by first|(with_reducible assumption)|assumption);obtain ⟨ad342,e342,hx342_0,hx342_1⟩:=at_T49 HR1_0.out x47_2 p342 q342;cases e342;replace hx342_0:=(HB.out.cell (World.block_lt_of_cell? w _ hx342_0)).trans hx342_0;replace hx342_1:=(HB.out.cell (World.block_lt_of_cell? w _ hx342_1)).trans hx342_1;replace p342:=eq_true p342;replace q342:=eq_true q342;go_wp2
           repeat (go_quiet (fail);try go_wp2)
           go_ret;exact ⟨eL_,bL HB⟩
          ·rw [if_neg c32] at H
           have c32b0 : (!(((rd_T49 l0_0 x47_2).f0) == ((rd_T49 l1_0 x47_2).f0)) || (!(((rd_T49 l0_0 x47_2).f1) == ((rd_T49 l1_0 x47_2).f1)))) = false:=by simpa using c32
           clear c32;have H':=Am H;clear H;have hnb36:=NB339_340.out;have hnc36:=NB340_339.out;have hcz37_0:=cC_ BK339 0 rfl;have hcz37_1:=cC_ BK339 1 rfl;have hcz37_2:=cC_ BK339 2 rfl;have hcz37_3:=cC_ BK339 3 rfl;have hcz37_4:=cC_ BK339 4 rfl;have hfz37_0:=kF BK339.out 0;have hfz37_1:=kF BK339.out 1;have hfz37_2:=kF BK339.out 2;have hfz37_3:=kF BK339.out 3;have hfz37_4:=kF BK339.out 4;have p341 : 0 ≤ (x47_2 : Int):=of_decide_eq_true (by first|(with_reducible assumption)|assumption);have q341 : x47_2 < (l0_0.length : Int):=of_decide_eq_true (by first|(with_reducible assumption)|assumption);obtain ⟨ad341,e341,hx341_0,hx341_1⟩:=at_T49 HR0_0.out x47_2 p341 q341;cases e341;replace hx341_0:=(HB.out.cell (World.block_lt_of_cell? w _ hx341_0)).trans hx341_0;replace hx341_1:=(HB.out.cell (World.block_lt_of_cell? w _ hx341_1)).trans hx341_1;replace p341:=eq_true p341;replace q341:=eq_true q341;have hcz38_0:=cC_ BK340 0 rfl;have hcz38_1:=cC_ BK340 1 rfl;have hcz38_2:=cC_ BK340 2 rfl;have hcz38_3:=cC_ BK340 3 rfl;have hcz38_4:=cC_ BK340 4 rfl;have hfz38_0:=kF BK340.out 0;have hfz38_1:=kF BK340.out 1;have hfz38_2:=kF BK340.out 2;have hfz38_3:=kF BK340.out 3;have hfz38_4:=kF BK340.out 4;have p342 : 0 ≤ (x47_2 : Int):=of_decide_eq_true (by first|(with_reducible assumption)|assumption);have q342 : x47_2 < (l1_0.length : Int):=of_decide_eq_true (by first|(with_reducible assumption)|assumption);obtain ⟨ad342,e342,hx342_0,hx342_1⟩:=at_T49 HR1_0.out x47_2 p342 q342;cases e342;replace hx342_0:=(HB.out.cell (World.block_lt_of_cell? w _ hx342_0)).trans hx342_0;replace hx342_1:=(HB.out.cell (World.block_lt_of_cell? w _ hx342_1)).trans hx342_1;replace p342:=eq_true p342;replace q342:=eq_true q342;go_wp2
           repeat (go_quiet (fail);try go_wp2)
           go_roundg k2
           case measure => have:=HJ2.out;have:=HK2.out;omega
           case rel => exact ⟨(wrap64 (x47_2 + 1)),vL_,H',⟨by have:=HJ2.out;have:=HK2.out;omega⟩,⟨kL BK339⟩,⟨kL BK340⟩,⟨bL HB⟩⟩
         ·rw [if_neg c31] at H;exact absurd H (by simp)
        ·rw [if_neg c30] at H;exact absurd H (by simp)
       ·rw [if_neg c29] at H;exact absurd H (by simp)
      ·rw [if_neg c28] at H;have c28b0 : decide (x47_2 < (l0_0.length : Int)) = false:=decide_eq_false c28;clear c28;have H':=Am H;clear H;have hnb39:=NB339_340.out;have hnc39:=NB340_339.out;have hcz40_0:=cC_ BK339 0 rfl;have hcz40_1:=cC_ BK339 1 rfl;have hcz40_2:=cC_ BK339 2 rfl;have hcz40_3:=cC_ BK339 3 rfl;have hcz40_4:=cC_ BK339 4 rfl;have hfz40_0:=kF BK339.out 0;have hfz40_1:=kF BK339.out 1;have hfz40_2:=kF BK339.out 2;have hfz40_3:=kF BK339.out 3;have hfz40_4:=kF BK339.out 4;go_wp2
       repeat (go_quiet (fail);try go_wp2)
       go_loopg [65] k2 (fun kq v65 w' => ∃ (x65_3 : Int),v65 = .int .i64 x65_3∧As (laws_wProfile.l1 kq (l0_1.length : Int) x65_3 l0_0 l0_1 a0_2 a0_3 a0_4 l1_0 l1_1 a1_2 a1_3 a1_4 = some r)∧As (kq ≤ k2)∧As (w'.heap[gb339]? = some (.cells #[(.slice A0_0 l0_0.length c0_0),(.slice A0_1 l0_1.length c0_1),.int .i64 a0_2,.int .i64 a0_3,.int .i64 a0_4] 26 (0,0)))∧As (w'.heap[gb340]? = some (.cells #[(.slice A1_0 l1_0.length c1_0),(.slice A1_1 l1_1.length c1_1),.int .i64 a1_2,.int .i64 a1_3,.int .i64 a1_4] 26 (0,0)))∧As (Below w.heap.size w w'))
       case atStart => exact ⟨(0),vL_,H',⟨Nat.le_refl _⟩,⟨kL BK339⟩,⟨kL BK340⟩,⟨bL HB⟩⟩
       case round =>
        clear H';(try clear c1);(try clear c2);(try clear p2);(try clear c3);(try clear p3);(try clear q3);(try clear hx3);(try clear c6);(try clear c6b0);(try clear c6b1);(try clear c6b2);(try clear p6);(try clear c7);(try clear c7b0);(try clear c7b1);(try clear c7b2);(try clear c8);(try clear c8b0);(try clear c8b1);(try clear c9);(try clear c9b0);(try clear c9b1);(try clear c10);(try clear c13);(try clear c16);(try clear c19);(try clear c22);(try clear c25);(try clear c26);(try clear c28);(try clear c28b0);(try clear c29);(try clear c29b0);(try clear c30);(try clear c30b0);(try clear c31);(try clear c31b0);(try clear c32);(try clear c32b0);(try clear c33);(try clear p34);(try clear q34);(try clear hx34);(try clear c36);(try clear c39);(try clear hcz11_0 hcz11_1 hcz11_2 hcz11_3 hcz11_4 hcz12_0 hcz12_1 hcz12_2 hcz12_3 hcz12_4 hcz14_0 hcz14_1 hcz14_2 hcz14_3 hcz14_4 hcz15_0 hcz15_1 hcz15_2 hcz15_3 hcz15_4 hcz17_0 hcz17_1 hcz17_2 hcz17_3 hcz17_4 hcz18_0 hcz18_1 hcz18_2 hcz18_3 hcz18_4 hcz20_0 hcz20_1 hcz20_2 hcz20_3 hcz20_4 hcz21_0 hcz21_1 hcz21_2 hcz21_3 hcz21_4 hcz23_0 hcz23_1 hcz23_2 hcz23_3 hcz23_4 hcz24_0 hcz24_1 hcz24_2 hcz24_3 hcz24_4 hcz27_0 hcz27_1 hcz27_2 hcz27_3 hcz27_4 hcz34_0 hcz34_1 hcz34_2 hcz34_3 hcz34_4 hcz35_0 hcz35_1 hcz35_2 hcz35_3 hcz35_4 hcz37_0 hcz37_1 hcz37_2 hcz37_3 hcz37_4 hcz38_0 hcz38_1 hcz38_2 hcz38_3 hcz38_4 hcz40_0 hcz40_1 hcz40_2 hcz40_3 hcz40_4 hfz11_0 hfz11_1 hfz11_2 hfz11_3 hfz11_4 hfz12_0 hfz12_1 hfz12_2 hfz12_3 hfz12_4 hfz14_0 hfz14_1 hfz14_2 hfz14_3 hfz14_4 hfz15_0 hfz15_1 hfz15_2 hfz15_3 hfz15_4 hfz17_0 hfz17_1 hfz17_2 hfz17_3 hfz17_4 hfz18_0 hfz18_1 hfz18_2 hfz18_3 hfz18_4 hfz20_0 hfz20_1 hfz20_2)
        (try clear hfz20_3 hfz20_4 hfz21_0 hfz21_1 hfz21_2 hfz21_3 hfz21_4 hfz23_0 hfz23_1 hfz23_2 hfz23_3 hfz23_4 hfz24_0 hfz24_1 hfz24_2 hfz24_3 hfz24_4 hfz27_0 hfz27_1 hfz27_2 hfz27_3 hfz27_4 hfz34_0 hfz34_1 hfz34_2 hfz34_3 hfz34_4 hfz35_0 hfz35_1 hfz35_2 hfz35_3 hfz35_4 hfz37_0 hfz37_1 hfz37_2 hfz37_3 hfz37_4 hfz38_0 hfz38_1 hfz38_2 hfz38_3 hfz38_4 hfz40_0 hfz40_1 hfz40_2 hfz40_3 hfz40_4);(try clear hx341_0);(try clear hx341_1);(try clear hx342_0);(try clear hx342_1);(try clear p2);(try clear p341);(try clear p342);(try clear q341);(try clear q342);obtain ⟨x65_3,rfl,HA,HK3,BK339,BK340,HB⟩:=hrel
        cases gk with
        | zero => exact absurd HA.out (by simp [laws_wProfile.l1])
        | succ k3 =>
         have H:=HA.out;clear HA;simp only [laws_wProfile.l1] at H
         by_cases c41 : x65_3 < (l0_1.length : Int)
         ·rw [if_pos c41] at H;have c41b0 : decide (x65_3 < (l0_1.length : Int)) = true:=decide_eq_true c41;clear c41
          by_cases c42 : 0 ≤ x65_3
          ·rw [if_pos c42] at H;have c42b0 : decide (0 ≤ x65_3) = true:=decide_eq_true c42;clear c42
           by_cases c43 : x65_3 < (l0_1.length : Int)
           ·rw [if_pos c43] at H;have c43b0 : decide (x65_3 < (l0_1.length : Int)) = true:=decide_eq_true c43;clear c43
            by_cases c44 : x65_3 < (l1_1.length : Int)
            ·rw [if_pos c44] at H;have c44b0 : decide (x65_3 < (l1_1.length : Int)) = true:=decide_eq_true c44;clear c44
             by_cases c45 : (!(((rd_T56 l0_1 x65_3).f0) == ((rd_T56 l1_1 x65_3).f0)) || (!(((rd_T56 l0_1 x65_3).f1) == ((rd_T56 l1_1 x65_3).f1)) || (!(((rd_T56 l0_1 x65_3).f2) == ((rd_T56 l1_1 x65_3).f2))))) = true
             ·rw [if_pos c45] at H;have c45b0 : (!(((rd_T56 l0_1 x65_3).f0) == ((rd_T56 l1_1 x65_3).f0)) || (!(((rd_T56 l0_1 x65_3).f1) == ((rd_T56 l1_1 x65_3).f1)) || (!(((rd_T56 l0_1 x65_3).f2) == ((rd_T56 l1_1 x65_3).f2))))) = true:=c45;clear c45;obtain rfl:=Option.some.inj H;have hnb46:=NB339_340.out;have hnc46:=NB340_339.out;have hcz47_0:=cC_ BK339 0 rfl;have hcz47_1:=cC_ BK339 1 rfl;have hcz47_2:=cC_ BK339 2 rfl;have hcz47_3:=cC_ BK339 3 rfl;have hcz47_4:=cC_ BK339 4 rfl;have hfz47_0:=kF BK339.out 0;have hfz47_1:=kF BK339.out 1;have hfz47_2:=kF BK339.out 2;have hfz47_3:=kF BK339.out 3;have hfz47_4:=kF BK339.out 4;have p343 : 0 ≤ (x65_3 : Int):=of_decide_eq_true (by first|(with_reducible assumption)|assumption);have q343 : x65_3 < (l0_1.length : Int):=of_decide_eq_true (by first|(with_reducible assumption)|assumption);obtain ⟨ad343,e343,hx343_0,hx343_1,hx343_2⟩:=at_T56 HR0_1.out x65_3 p343 q343;cases e343;replace hx343_0:=(HB.out.cell (World.block_lt_of_cell? w _ hx343_0)).trans hx343_0;replace hx343_1:=(HB.out.cell (World.block_lt_of_cell? w _ hx343_1)).trans hx343_1;replace hx343_2:=(HB.out.cell (World.block_lt_of_cell? w _ hx343_2)).trans hx343_2;replace p343:=eq_true p343;replace q343:=eq_true q343;have hcz48_0:=cC_ BK340 0 rfl;have hcz48_1:=cC_ BK340 1 rfl;have hcz48_2:=cC_ BK340 2 rfl;have hcz48_3:=cC_ BK340 3 rfl;have hcz48_4:=cC_ BK340 4 rfl;have hfz48_0:=kF BK340.out 0;have hfz48_1:=kF BK340.out 1;have hfz48_2:=kF BK340.out 2;have hfz48_3:=kF BK340.out 3;have hfz48_4:=kF BK340.out 4;have p344 : 0 ≤ (x65_3 : Int):=of_decide_eq_true (by first|(with_reducible assumption)|assumption);have q344 : x65_3 < (l1_1.length : Int):=of_decide_eq_true (by first|(with_reducible assumption)|assumption);obtain ⟨ad344,e344,hx344_0,hx344_1,hx344_2⟩:=at_T56 HR1_1.out x65_3 p344 q344;cases e344;replace hx344_0:=(HB.out.cell (World.block_lt_of_cell? w _ hx344_0)).trans hx344_0;replace hx344_1:=(HB.out.cell (World.block_lt_of_cell? w _ hx344_1)).trans hx344_1;replace hx344_2:=(HB.out.cell (World.block_lt_of_cell? w _ hx344_2)).trans hx344_2;replace p344:=eq_true p344;replace q344:=eq_true q344;go_wp2
              repeat (go_quiet (fail);try go_wp2)
              go_ret;exact ⟨eL_,bL HB⟩
             ·rw [if_neg c45] at H
              have c45b0 : (!(((rd_T56 l0_1 x65_3).f0) == ((rd_T56 l1_1 x65_3).f0)) || (!(((rd_T56 l0_1 x65_3).f1) == ((rd_T56 l1_1 x65_3).f1)) || (!(((rd_T56 l0_1 x65_3).f2) == ((rd_T56 l1_1 x65_3).f2))))) = false:=by simpa using c45
              clear c45;have H':=Am H;clear H;have hnb49:=NB339_340.out;have hnc49:=NB340_339.out;have hcz50_0:=cC_ BK339 0 rfl;have hcz50_1:=cC_ BK339 1 rfl;have hcz50_2:=cC_ BK339 2 rfl;have hcz50_3:=cC_ BK339 3 rfl;have hcz50_4:=cC_ BK339 4 rfl;have hfz50_0:=kF BK339.out 0;have hfz50_1:=kF BK339.out 1;have hfz50_2:=kF BK339.out 2;have hfz50_3:=kF BK339.out 3;have hfz50_4:=kF BK339.out 4;have p343 : 0 ≤ (x65_3 : Int):=of_decide_eq_true (by first|(with_reducible assumption)|assumption);have q343 : x65_3 < (l0_1.length : Int):=of_decide_eq_true (by first|(with_reducible assumption)|assumption);obtain ⟨ad343,e343,hx343_0,hx343_1,hx343_2⟩:=at_T56 HR0_1.out x65_3 p343 q343;cases e343;replace hx343_0:=(HB.out.cell (World.block_lt_of_cell? w _ hx343_0)).trans hx343_0;replace hx343_1:=(HB.out.cell (World.block_lt_of_cell? w _ hx343_1)).trans hx343_1;replace hx343_2:=(HB.out.cell (World.block_lt_of_cell? w _ hx343_2)).trans hx343_2;replace p343:=eq_true p343;replace q343:=eq_true q343;have hcz51_0:=cC_ BK340 0 rfl;have hcz51_1:=cC_ BK340 1 rfl;have hcz51_2:=cC_ BK340 2 rfl;have hcz51_3:=cC_ BK340 3 rfl;have hcz51_4:=cC_ BK340 4 rfl;have hfz51_0:=kF BK340.out 0;have hfz51_1:=kF BK340.out 1;have hfz51_2:=kF BK340.out 2;have hfz51_3:=kF BK340.out 3;have hfz51_4:=kF BK340.out 4;have p344 : 0 ≤ (x65_3 : Int):=of_decide_eq_true (by first|(with_reducible assumption)|assumption);have q344 : x65_3 < (l1_1.length : Int):=of_decide_eq_true (by first|(with_reducible assumption)|assumption);obtain ⟨ad344,e344,hx344_0,hx344_1,hx344_2⟩:=at_T56 HR1_1.out x65_3 p344 q344;cases e344;replace hx344_0:=(HB.out.cell (World.block_lt_of_cell? w _ hx344_0)).trans hx344_0;replace hx344_1:=(HB.out.cell (World.block_lt_of_cell? w _ hx344_1)).trans hx344_1;replace hx344_2:=(HB.out.cell (World.block_lt_of_cell? w _ hx344_2)).trans hx344_2;replace p344:=eq_true p344;replace q344:=eq_true q344;go_wp2
              repeat (go_quiet (fail);try go_wp2)
              go_roundg k3
              case measure => have:=HJ2.out;have:=HK2.out;have:=HK3.out;omega
              case rel => exact ⟨(wrap64 (x65_3 + 1)),vL_,H',⟨by have:=HJ2.out;have:=HK2.out;have:=HK3.out;omega⟩,⟨kL BK339⟩,⟨kL BK340⟩,⟨bL HB⟩⟩
            ·rw [if_neg c44] at H;exact absurd H (by simp)
           ·rw [if_neg c43] at H;exact absurd H (by simp)
          ·rw [if_neg c42] at H;exact absurd H (by simp)
         ·rw [if_neg c41] at H;have c41b0 : decide (x65_3 < (l0_1.length : Int)) = false:=decide_eq_false c41;clear c41;obtain rfl:=Option.some.inj H;go_wp2
          repeat (go_quiet (fail);try go_wp2)
          go_ret;exact ⟨eL_,bL HB⟩

end Go.Proofs.YtanjbdgmnecacaaDoor.PT
