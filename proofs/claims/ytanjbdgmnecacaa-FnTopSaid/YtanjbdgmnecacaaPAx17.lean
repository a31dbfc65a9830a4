-- Written by a program of this session (wip/print/myprint.py) over the kit's print, with contracts of its own; not a text of print.sh's.
import Derived.Test.YtanjbdgmnecacaaPAx0
import Derived.Test.YtanjbdgmnecacaaPAx1
import Derived.Test.YtanjbdgmnecacaaPAx2
namespace Go.Proofs.Ytanjbdgmnecacaa.PA
open Go.RowKit Go.Proofs.YtanjbdgmnecacaaW.PrintWords Go.Proofs.YtanjbdgmnecacaaW.PrintLast Go.Proofs.YtanjbdgmnecacaaW.PrintMore
attribute [local go_sem] max2_int min2_int max_two min_two   -- for this text's walks alone
set_option linter.unusedVariables false
set_option linter.unusedSimpArgs false

attribute [local go_sem high] eqA39 eqA45
/-! ### laws_wProfile: function 13 -/
mutual
def laws_wProfile.j0 : Nat → Bool → List (S39) → List (S45) → Int → Int → Int → List (S39) → List (S45) → Int → Int → Int → Option (Bool)
 | 0,_,_,_,_,_,_,_,_,_,_,_ => none
 | k + 1,x43,x336000,x336001,x336002,x336003,x336004,x337000,x337001,x337002,x337003,x337004 => if x43 = true then (some false) else (laws_wProfile.l0 k (x336000.length : Int) 0 x336000 x336001 x336002 x336003 x336004 x337000 x337001 x337002 x337003 x337004)
def laws_wProfile.l0 : Nat → Int → Int → List (S39) → List (S45) → Int → Int → Int → List (S39) → List (S45) → Int → Int → Int → Option (Bool)
 | 0,_,_,_,_,_,_,_,_,_,_,_,_ => none
 | k + 1,x46,x47,x336000,x336001,x336002,x336003,x336004,x337000,x337001,x337002,x337003,x337004 => if x47 < x46 then (if 0 ≤ x47 then (if x47 < (x336000.length : Int) then (if x47 < (x337000.length : Int) then (if (!(((rd_T39 x336000 x47).f0) == ((rd_T39 x337000 x47).f0)) || (!(((rd_T39 x336000 x47).f1) == ((rd_T39 x337000 x47).f1)))) = true then (some false) else (laws_wProfile.l0 k x46 (wrap64 (x47 + 1)) x336000 x336001 x336002 x336003 x336004 x337000 x337001 x337002 x337003 x337004)) else (none)) else (none)) else (none)) else (laws_wProfile.l1 k (x336001.length : Int) 0 x336000 x336001 x336002 x336003 x336004 x337000 x337001 x337002 x337003 x337004)
def laws_wProfile.l1 : Nat → Int → Int → List (S39) → List (S45) → Int → Int → Int → List (S39) → List (S45) → Int → Int → Int → Option (Bool)
 | 0,_,_,_,_,_,_,_,_,_,_,_,_ => none
 | k + 1,x64,x65,x336000,x336001,x336002,x336003,x336004,x337000,x337001,x337002,x337003,x337004 => if x65 < x64 then (if 0 ≤ x65 then (if x65 < (x336001.length : Int) then (if x65 < (x337001.length : Int) then (if (!(((rd_T45 x336001 x65).f0) == ((rd_T45 x337001 x65).f0)) || (!(((rd_T45 x336001 x65).f1) == ((rd_T45 x337001 x65).f1)) || (!(((rd_T45 x336001 x65).f2) == ((rd_T45 x337001 x65).f2))))) = true then (some false) else (laws_wProfile.l1 k x64 (wrap64 (x65 + 1)) x336000 x336001 x336002 x336003 x336004 x337000 x337001 x337002 x337003 x337004)) else (none)) else (none)) else (none)) else (some true)
end
def laws_wProfile.f (k : Nat) (l0_0 : List (S39)) (l0_1 : List (S45)) (a0_2 : Int) (a0_3 : Int) (a0_4 : Int) (l1_0 : List (S39)) (l1_1 : List (S45)) (a1_2 : Int) (a1_3 : Int) (a1_4 : Int) : Option (Bool):=if (l0_0.length : Int) = (l1_0.length : Int) then (if (l0_1.length : Int) = (l1_1.length : Int) then (if a0_2 = a1_2 then (if a0_3 = a1_3 then (laws_wProfile.j0 k (a0_4 != a1_4) l0_0 l0_1 a0_2 a0_3 a0_4 l1_0 l1_1 a1_2 a1_3 a1_4) else (laws_wProfile.j0 k true l0_0 l0_1 a0_2 a0_3 a0_4 l1_0 l1_1 a1_2 a1_3 a1_4)) else (laws_wProfile.j0 k true l0_0 l0_1 a0_2 a0_3 a0_4 l1_0 l1_1 a1_2 a1_3 a1_4)) else (laws_wProfile.j0 k true l0_0 l0_1 a0_2 a0_3 a0_4 l1_0 l1_1 a1_2 a1_3 a1_4)) else (laws_wProfile.j0 k true l0_0 l0_1 a0_2 a0_3 a0_4 l1_0 l1_1 a1_2 a1_3 a1_4)
theorem laws_wProfile.mono_l : ∀ k,(∀ y0 y1 y2 y3 y4 y5 y6 y7 y8 y9 y10,LeO (laws_wProfile.j0 k y0 y1 y2 y3 y4 y5 y6 y7 y8 y9 y10) (laws_wProfile.j0 (k + 1) y0 y1 y2 y3 y4 y5 y6 y7 y8 y9 y10))∧(∀ y0 y1 y2 y3 y4 y5 y6 y7 y8 y9 y10 y11,LeO (laws_wProfile.l0 k y0 y1 y2 y3 y4 y5 y6 y7 y8 y9 y10 y11) (laws_wProfile.l0 (k + 1) y0 y1 y2 y3 y4 y5 y6 y7 y8 y9 y10 y11))∧(∀ y0 y1 y2 y3 y4 y5 y6 y7 y8 y9 y10 y11,LeO (laws_wProfile.l1 k y0 y1 y2 y3 y4 y5 y6 y7 y8 y9 y10 y11) (laws_wProfile.l1 (k + 1) y0 y1 y2 y3 y4 y5 y6 y7 y8 y9 y10 y11))
 | 0 => ⟨fun _ _ _ _ _ _ _ _ _ _ _ r h => by simp [laws_wProfile.j0] at h,fun _ _ _ _ _ _ _ _ _ _ _ _ r h => by simp [laws_wProfile.l0] at h,fun _ _ _ _ _ _ _ _ _ _ _ _ r h => by simp [laws_wProfile.l1] at h⟩
 | k + 1 => by
  obtain ⟨ih0,ih1,ih2⟩:=laws_wProfile.mono_l k
  refine ⟨?_,?_,?_⟩
  ·intro y0 y1 y2 y3 y4 y5 y6 y7 y8 y9 y10
   unfold laws_wProfile.j0
   repeat' first
   | (with_reducible exact ih0 _ _ _ _ _ _ _ _ _ _ _)
   | (with_reducible exact ih1 _ _ _ _ _ _ _ _ _ _ _ _)
   | (with_reducible exact ih2 _ _ _ _ _ _ _ _ _ _ _ _)
   | (with_reducible exact LeO.refl _)
   | (with_reducible exact LeO.none _)
   | (with_reducible refine LeO.ite ?_ ?_)
   | (with_reducible refine LeO.bind ?_ (fun _ => ?_))
   | exact ih0 _ _ _ _ _ _ _ _ _ _ _
   | exact ih1 _ _ _ _ _ _ _ _ _ _ _ _
   | exact ih2 _ _ _ _ _ _ _ _ _ _ _ _
   | exact LeO.none _
   | refine LeO.ite ?_ ?_
   | refine LeO.bind ?_ (fun _ => ?_)
  ·intro y0 y1 y2 y3 y4 y5 y6 y7 y8 y9 y10 y11
   unfold laws_wProfile.l0
   repeat' first
   | (with_reducible exact ih0 _ _ _ _ _ _ _ _ _ _ _)
   | (with_reducible exact ih1 _ _ _ _ _ _ _ _ _ _ _ _)
   | (with_reducible exact ih2 _ _ _ _ _ _ _ _ _ _ _ _)
   | (with_reducible exact LeO.refl _)
   | (with_reducible exact LeO.none _)
   | (with_reducible refine LeO.ite ?_ ?_)
   | (with_reducible refine LeO.bind ?_ (fun _ => ?_))
   | exact ih0 _ _ _ _ _ _ _ _ _ _ _
   | exact ih1 _ _ _ _ _ _ _ _ _ _ _ _
   | exact ih2 _ _ _ _ _ _ _ _ _ _ _ _
   | exact LeO.none _
   | refine LeO.ite ?_ ?_
   | refine LeO.bind ?_ (fun _ => ?_)
  ·intro y0 y1 y2 y3 y4 y5 y6 y7 y8 y9 y10 y11
   unfold laws_wProfile.l1
   repeat' first
   | (with_reducible exact ih0 _ _ _ _ _ _ _ _ _ _ _)
   | (with_reducible exact ih1 _ _ _ _ _ _ _ _ _ _ _ _)
   | (with_reducible exact ih2 _ _ _ _ _ _ _ _ _ _ _ _)
   | (with_reducible exact LeO.refl _)
   | (with_reducible exact LeO.none _)
   | (with_reducible refine LeO.ite ?_ ?_)
   | (with_reducible refine LeO.bind ?_ (fun _ => ?_))
   | exact ih0 _ _ _ _ _ _ _ _ _ _ _
   | exact ih1 _ _ _ _ _ _ _ _ _ _ _ _
   | exact ih2 _ _ _ _ _ _ _ _ _ _ _ _
   | exact LeO.none _
   | refine LeO.ite ?_ ?_
   | refine LeO.bind ?_ (fun _ => ?_)
theorem laws_wProfile.mono : ∀ a0 a1 a2 a3 a4 a5 a6 a7 a8 a9 k,LeO (laws_wProfile.f k a0 a1 a2 a3 a4 a5 a6 a7 a8 a9) (laws_wProfile.f (k + 1) a0 a1 a2 a3 a4 a5 a6 a7 a8 a9):=by
 intro a0 a1 a2 a3 a4 a5 a6 a7 a8 a9 k
 obtain ⟨ih0,ih1,ih2⟩:=laws_wProfile.mono_l k
 unfold laws_wProfile.f
 repeat' first
   | (with_reducible exact ih0 _ _ _ _ _ _ _ _ _ _ _)
   | (with_reducible exact ih1 _ _ _ _ _ _ _ _ _ _ _ _)
   | (with_reducible exact ih2 _ _ _ _ _ _ _ _ _ _ _ _)
   | (with_reducible exact LeO.refl _)
   | (with_reducible exact LeO.none _)
   | (with_reducible refine LeO.ite ?_ ?_)
   | (with_reducible refine LeO.bind ?_ (fun _ => ?_))
   | exact ih0 _ _ _ _ _ _ _ _ _ _ _
   | exact ih1 _ _ _ _ _ _ _ _ _ _ _ _
   | exact ih2 _ _ _ _ _ _ _ _ _ _ _ _
   | exact LeO.none _
   | refine LeO.ite ?_ ?_
   | refine LeO.bind ?_ (fun _ => ?_)
set_option maxHeartbeats 8000000 in
set_option maxRecDepth 100000 in
theorem laws_wProfile.calls (k : Nat) (A0_0 : Option Addr) (c0_0 : Nat) (l0_0 : List (S39)) (A0_1 : Option Addr) (c0_1 : Nat) (l0_1 : List (S45)) (a0_2 : Int) (a0_3 : Int) (a0_4 : Int) (A1_0 : Option Addr) (c1_0 : Nat) (l1_0 : List (S39)) (A1_1 : Option Addr) (c1_1 : Nat) (l1_1 : List (S45)) (a1_2 : Int) (a1_3 : Int) (a1_4 : Int) (r : Bool) (w : World) (hr0_0 : Kd.C k39 w A0_0 l0_0.length l0_0) (hc0_0 : l0_0.length ≤ c0_0) (hr0_1 : Kd.C k45 w A0_1 l0_1.length l0_1) (hc0_1 : l0_1.length ≤ c0_1) (hr1_0 : Kd.C k39 w A1_0 l1_0.length l1_0) (hc1_0 : l1_0.length ≤ c1_0) (hr1_1 : Kd.C k45 w A1_1 l1_1.length l1_1) (hc1_1 : l1_1.length ≤ c1_1) (h : laws_wProfile.f k l0_0 l0_1 a0_2 a0_3 a0_4 l1_0 l1_1 a1_2 a1_3 a1_4 = some r) :
  Calls Try.prog 13 #[.agg #[.slice A0_0 l0_0.length c0_0,.slice A0_1 l0_1.length c0_1,.int .i64 a0_2,.int .i64 a0_3,.int .i64 a0_4],.agg #[.slice A1_0 l1_0.length c1_0,.slice A1_1 l1_1.length c1_1,.int .i64 a1_2,.int .i64 a1_3,.int .i64 a1_4]] w fun e w' => e = .returned (.bool r)∧Below w.heap.size w w':=by
 have hu26:=Try.underlying26
 have hu39:=Try.underlying39
 have hu45:=Try.underlying45
 have HR0_0:=Am hr0_0
 have HC0_0:=Am hc0_0
 clear hr0_0 hc0_0
 have HR0_1:=Am hr0_1
 have HC0_1:=Am hc0_1
 clear hr0_1 hc0_1
 have HR1_0:=Am hr1_0
 have HC1_0:=Am hc1_0
 clear hr1_0 hc1_0
 have HR1_1:=Am hr1_1
 have HC1_1:=Am hc1_1
 clear hr1_1 hc1_1
 have HB:=Am (Below.refl w.heap.size w)
 have H : (if (l0_0.length : Int) = (l1_0.length : Int) then (if (l0_1.length : Int) = (l1_1.length : Int) then (if a0_2 = a1_2 then (if a0_3 = a1_3 then (laws_wProfile.j0 k (a0_4 != a1_4) l0_0 l0_1 a0_2 a0_3 a0_4 l1_0 l1_1 a1_2 a1_3 a1_4) else (laws_wProfile.j0 k true l0_0 l0_1 a0_2 a0_3 a0_4 l1_0 l1_1 a1_2 a1_3 a1_4)) else (laws_wProfile.j0 k true l0_0 l0_1 a0_2 a0_3 a0_4 l1_0 l1_1 a1_2 a1_3 a1_4)) else (laws_wProfile.j0 k true l0_0 l0_1 a0_2 a0_3 a0_4 l1_0 l1_1 a1_2 a1_3 a1_4)) else (laws_wProfile.j0 k true l0_0 l0_1 a0_2 a0_3 a0_4 l1_0 l1_1 a1_2 a1_3 a1_4)) = some r:=h
 clear h
 have HC3:=Am H
 clear H
 go_enter Try.func13,Try.ntmps13
 go_upto_region 1 with (first|((with_reducible refine gate_dst (N:=2) rfl ?_);(try (refine gate_guard (by rfl) ?_;dsimp only));refine box_event ?hg (N:=2) ?hd (cs:=#[.slice A0_0 l0_0.length c0_0,.slice A0_1 l0_1.length c0_1,.int .i64 a0_2,.int .i64 a0_3,.int .i64 a0_4]) (t:=26) ?hr ?_;(case hd => rfl);(case hg => rfl);(case hr => first|(go_simp;done)|(go_simp;rfl));intro gb335 hg w4 hbox hb;have n0_:=Am (below_step (by repeat (first|(with_reducible first|exact HB.out|apply bA|apply bN|apply bD)|exact HB.out)) hb);have n1_:=Am (hbox);have n2_:=Am ((by rw [hg];exact (below_size (by repeat (first|(with_reducible first|exact HB.out|apply bA|apply bN|apply bD)|exact HB.out))) : w.heap.size ≤ gb335));have n3_:=Am ((by rw [hg];exact (below_size (by repeat (first|(with_reducible first|exact HB.out|apply bA|apply bN|apply bD)|exact HB.out))) : w.heap.size ≤ gb335));clear HB;have HB:=n0_;have BK335:=n1_;have GW335:=n2_;have GE335:=n3_;clear n0_ n1_ n2_ n3_;clear hb hbox hg)|((with_reducible refine gate_dst (N:=3) rfl ?_);(try (refine gate_guard (by rfl) ?_;dsimp only));refine box_event ?hg (N:=3) ?hd (cs:=#[.slice A1_0 l1_0.length c1_0,.slice A1_1 l1_1.length c1_1,.int .i64 a1_2,.int .i64 a1_3,.int .i64 a1_4]) (t:=26) ?hr ?_;(case hd => rfl);(case hg => rfl);(case hr => first|(go_simp;done)|(go_simp;rfl));intro gb336 hg w5 hbox hb;have n0_:=Am (blk_below (g:=gb335) (o:=.cells #[.slice A0_0 l0_0.length c0_0,.slice A0_1 l0_1.length c0_1,.int .i64 a0_2,.int .i64 a0_3,.int .i64 a0_4] 26 (0,0)) (by (with_reducible repeat (first|refine kN ?_ _|refine kD ?_|refine kA ?_ _));exact BK335.out) hb);have n1_:=Am (below_step (by repeat (first|(with_reducible first|exact HB.out|apply bA|apply bN|apply bD|refine bS ?_ GE335.out)|exact HB.out)) hb);have n2_:=Am (hbox);have n3_:=Am ((by rw [hg];exact (below_size (by repeat (first|(with_reducible first|exact HB.out|apply bA|apply bN|apply bD|refine bS ?_ GE335.out)|exact HB.out))) : w.heap.size ≤ gb336));have n4_:=Am ((by rw [hg];exact (below_size (by repeat (first|(with_reducible first|exact HB.out|apply bA|apply bN|apply bD|refine bS ?_ GE335.out)|exact HB.out))) : w.heap.size ≤ gb336));have n5_:=Am ((by rw [hg];exact Nat.ne_of_lt (blk_lt (g:=gb335) (o:=.cells #[.slice A0_0 l0_0.length c0_0,.slice A0_1 l0_1.length c0_1,.int .i64 a0_2,.int .i64 a0_3,.int .i64 a0_4] 26 (0,0)) (by (with_reducible repeat (first|refine kN ?_ _|refine kD ?_|refine kA ?_ _));exact BK335.out)) : gb335 ≠ gb336));have n6_:=Am ((by rw [hg];exact Nat.ne_of_gt (blk_lt (g:=gb335) (o:=.cells #[.slice A0_0 l0_0.length c0_0,.slice A0_1 l0_1.length c0_1,.int .i64 a0_2,.int .i64 a0_3,.int .i64 a0_4] 26 (0,0)) (by (with_reducible repeat (first|refine kN ?_ _|refine kD ?_|refine kA ?_ _));exact BK335.out)) : gb336 ≠ gb335));clear BK335;clear HB;have BK335:=n0_;have HB:=n1_;have BK336:=n2_;have GW336:=n3_;have GE336:=n4_;have NB335_336:=n5_;have NB336_335:=n6_;clear n0_ n1_ n2_ n3_ n4_ n5_ n6_;clear hb hbox hg))
 repeat (go_quiet (first|((with_reducible refine gate_dst (N:=2) rfl ?_);(try (refine gate_guard (by rfl) ?_;dsimp only));refine box_event ?hg (N:=2) ?hd (cs:=#[.slice A0_0 l0_0.length c0_0,.slice A0_1 l0_1.length c0_1,.int .i64 a0_2,.int .i64 a0_3,.int .i64 a0_4]) (t:=26) ?hr ?_;(case hd => rfl);(case hg => rfl);(case hr => first|(go_simp;done)|(go_simp;rfl));intro gb335 hg w4 hbox hb;have n0_:=Am (below_step (by repeat (first|(with_reducible first|exact HB.out|apply bA|apply bN|apply bD)|exact HB.out)) hb);have n1_:=Am (hbox);have n2_:=Am ((by rw [hg];exact (below_size (by repeat (first|(with_reducible first|exact HB.out|apply bA|apply bN|apply bD)|exact HB.out))) : w.heap.size ≤ gb335));have n3_:=Am ((by rw [hg];exact (below_size (by repeat (first|(with_reducible first|exact HB.out|apply bA|apply bN|apply bD)|exact HB.out))) : w.heap.size ≤ gb335));clear HB;have HB:=n0_;have BK335:=n1_;have GW335:=n2_;have GE335:=n3_;clear n0_ n1_ n2_ n3_;clear hb hbox hg)|((with_reducible refine gate_dst (N:=3) rfl ?_);(try (refine gate_guard (by rfl) ?_;dsimp only));refine box_event ?hg (N:=3) ?hd (cs:=#[.slice A1_0 l1_0.length c1_0,.slice A1_1 l1_1.length c1_1,.int .i64 a1_2,.int .i64 a1_3,.int .i64 a1_4]) (t:=26) ?hr ?_;(case hd => rfl);(case hg => rfl);(case hr => first|(go_simp;done)|(go_simp;rfl));intro gb336 hg w5 hbox hb;have n0_:=Am (blk_below (g:=gb335) (o:=.cells #[.slice A0_0 l0_0.length c0_0,.slice A0_1 l0_1.length c0_1,.int .i64 a0_2,.int .i64 a0_3,.int .i64 a0_4] 26 (0,0)) (by (with_reducible repeat (first|refine kN ?_ _|refine kD ?_|refine kA ?_ _));exact BK335.out) hb);have n1_:=Am (below_step (by repeat (first|(with_reducible first|exact HB.out|apply bA|apply bN|apply bD|refine bS ?_ GE335.out)|exact HB.out)) hb);have n2_:=Am (hbox);have n3_:=Am ((by rw [hg];exact (below_size (by repeat (first|(with_reducible first|exact HB.out|apply bA|apply bN|apply bD|refine bS ?_ GE335.out)|exact HB.out))) : w.heap.size ≤ gb336));have n4_:=Am ((by rw [hg];exact (below_size (by repeat (first|(with_reducible first|exact HB.out|apply bA|apply bN|apply bD|refine bS ?_ GE335.out)|exact HB.out))) : w.heap.size ≤ gb336));have n5_:=Am ((by rw [hg];exact Nat.ne_of_lt (blk_lt (g:=gb335) (o:=.cells #[.slice A0_0 l0_0.length c0_0,.slice A0_1 l0_1.length c0_1,.int .i64 a0_2,.int .i64 a0_3,.int .i64 a0_4] 26 (0,0)) (by (with_reducible repeat (first|refine kN ?_ _|refine kD ?_|refine kA ?_ _));exact BK335.out)) : gb335 ≠ gb336));have n6_:=Am ((by rw [hg];exact Nat.ne_of_gt (blk_lt (g:=gb335) (o:=.cells #[.slice A0_0 l0_0.length c0_0,.slice A0_1 l0_1.length c0_1,.int .i64 a0_2,.int .i64 a0_3,.int .i64 a0_4] 26 (0,0)) (by (with_reducible repeat (first|refine kN ?_ _|refine kD ?_|refine kA ?_ _));exact BK335.out)) : gb336 ≠ gb335));clear BK335;clear HB;have BK335:=n0_;have HB:=n1_;have BK336:=n2_;have GW336:=n3_;have GE336:=n4_;have NB335_336:=n5_;have NB336_335:=n6_;clear n0_ n1_ n2_ n3_ n4_ n5_ n6_;clear hb hbox hg));go_upto_region 1 with (first|((with_reducible refine gate_dst (N:=2) rfl ?_);(try (refine gate_guard (by rfl) ?_;dsimp only));refine box_event ?hg (N:=2) ?hd (cs:=#[.slice A0_0 l0_0.length c0_0,.slice A0_1 l0_1.length c0_1,.int .i64 a0_2,.int .i64 a0_3,.int .i64 a0_4]) (t:=26) ?hr ?_;(case hd => rfl);(case hg => rfl);(case hr => first|(go_simp;done)|(go_simp;rfl));intro gb335 hg w4 hbox hb;have n0_:=Am (below_step (by repeat (first|(with_reducible first|exact HB.out|apply bA|apply bN|apply bD)|exact HB.out)) hb);have n1_:=Am (hbox);have n2_:=Am ((by rw [hg];exact (below_size (by repeat (first|(with_reducible first|exact HB.out|apply bA|apply bN|apply bD)|exact HB.out))) : w.heap.size ≤ gb335));have n3_:=Am ((by rw [hg];exact (below_size (by repeat (first|(with_reducible first|exact HB.out|apply bA|apply bN|apply bD)|exact HB.out))) : w.heap.size ≤ gb335));clear HB;have HB:=n0_;have BK335:=n1_;have GW335:=n2_;have GE335:=n3_;clear n0_ n1_ n2_ n3_;clear hb hbox hg)|((with_reducible refine gate_dst (N:=3) rfl ?_);(try (refine gate_guard (by rfl) ?_;dsimp only));refine box_event ?hg (N:=3) ?hd (cs:=#[.slice A1_0 l1_0.length c1_0,.slice A1_1 l1_1.length c1_1,.int .i64 a1_2,.int .i64 a1_3,.int .i64 a1_4]) (t:=26) ?hr ?_;(case hd => rfl);(case hg => rfl);(case hr => first|(go_simp;done)|(go_simp;rfl));intro gb336 hg w5 hbox hb;have n0_:=Am (blk_below (g:=gb335) (o:=.cells #[.slice A0_0 l0_0.length c0_0,.slice A0_1 l0_1.length c0_1,.int .i64 a0_2,.int .i64 a0_3,.int .i64 a0_4] 26 (0,0)) (by (with_reducible repeat (first|refine kN ?_ _|refine kD ?_|refine kA ?_ _));exact BK335.out) hb);have n1_:=Am (below_step (by repeat (first|(with_reducible first|exact HB.out|apply bA|apply bN|apply bD|refine bS ?_ GE335.out)|exact HB.out)) hb);have n2_:=Am (hbox);have n3_:=Am ((by rw [hg];exact (below_size (by repeat (first|(with_reducible first|exact HB.out|apply bA|apply bN|apply bD|refine bS ?_ GE335.out)|exact HB.out))) : w.heap.size ≤ gb336));have n4_:=Am ((by rw [hg];exact (below_size (by repeat (first|(with_reducible first|exact HB.out|apply bA|apply bN|apply bD|refine bS ?_ GE335.out)|exact HB.out))) : w.heap.size ≤ gb336));have n5_:=Am ((by rw [hg];exact Nat.ne_of_lt (blk_lt (g:=gb335) (o:=.cells #[.slice A0_0 l0_0.length c0_0,.slice A0_1 l0_1.length c0_1,.int .i64 a0_2,.int .i64 a0_3,.int .i64 a0_4] 26 (0,0)) (by (with_reducible repeat (first|refine kN ?_ _|refine kD ?_|refine kA ?_ _));exact BK335.out)) : gb335 ≠ gb336));have n6_:=Am ((by rw [hg];exact Nat.ne_of_gt (blk_lt (g:=gb335) (o:=.cells #[.slice A0_0 l0_0.length c0_0,.slice A0_1 l0_1.length c0_1,.int .i64 a0_2,.int .i64 a0_3,.int .i64 a0_4] 26 (0,0)) (by (with_reducible repeat (first|refine kN ?_ _|refine kD ?_|refine kA ?_ _));exact BK335.out)) : gb336 ≠ gb335));clear BK335;clear HB;have BK335:=n0_;have HB:=n1_;have BK336:=n2_;have GW336:=n3_;have GE336:=n4_;have NB335_336:=n5_;have NB336_335:=n6_;clear n0_ n1_ n2_ n3_ n4_ n5_ n6_;clear hb hbox hg)))
 (try simp only [Act.put,List.setIfInBounds_toArray,List.set_cons_zero,List.set_cons_succ])
 go_cut [43] (fun v43 wc => ∃ (kq : Nat) (x43_2 : Bool),v43 = .bool x43_2∧As (laws_wProfile.j0 kq x43_2 l0_0 l0_1 a0_2 a0_3 a0_4 l1_0 l1_1 a1_2 a1_3 a1_4 = some r)∧As (kq ≤ k)∧As (wc.heap[gb335]? = some (.cells #[(.slice A0_0 l0_0.length c0_0),(.slice A0_1 l0_1.length c0_1),.int .i64 a0_2,.int .i64 a0_3,.int .i64 a0_4] 26 (0,0)))∧As (wc.heap[gb336]? = some (.cells #[(.slice A1_0 l1_0.length c1_0),(.slice A1_1 l1_1.length c1_1),.int .i64 a1_2,.int .i64 a1_3,.int .i64 a1_4] 26 (0,0)))∧As (Below w.heap.size w wc))
 case first =>
  have H:=HC3.out
  clear HC3
  by_cases c6 : (l0_0.length : Int) = (l1_0.length : Int)
  ·rw [if_pos c6] at H
   have c6b0 : ((l0_0.length : Int) == (l1_0.length : Int)) = true:=beq_iff_eq.mpr c6
   have c6b1 : ((l0_0.length : Int) != (l1_0.length : Int)) = false:=bne_eq_false_iff_eq.mpr c6
   have c6b2 : (l0_0.length == l1_0.length) = true:=by first|simpa using c6|(simp at c6 ⊢;omega)
   clear c6
   (first|rw [c6b0]|(simp only [i64_w,i32_w];rw [c6b0])|skip)
   by_cases c7 : (l0_1.length : Int) = (l1_1.length : Int)
   ·rw [if_pos c7] at H
    have c7b0 : ((l0_1.length : Int) == (l1_1.length : Int)) = true:=beq_iff_eq.mpr c7
    have c7b1 : ((l0_1.length : Int) != (l1_1.length : Int)) = false:=bne_eq_false_iff_eq.mpr c7
    have c7b2 : (l0_1.length == l1_1.length) = true:=by first|simpa using c7|(simp at c7 ⊢;omega)
    clear c7
    by_cases c8 : a0_2 = a1_2
    ·rw [if_pos c8] at H
     have c8b0 : (a0_2 == a1_2) = true:=beq_iff_eq.mpr c8
     have c8b1 : (a0_2 != a1_2) = false:=bne_eq_false_iff_eq.mpr c8
     clear c8
     by_cases c9 : a0_3 = a1_3
     ·rw [if_pos c9] at H
      have c9b0 : (a0_3 == a1_3) = true:=beq_iff_eq.mpr c9
      have c9b1 : (a0_3 != a1_3) = false:=bne_eq_false_iff_eq.mpr c9
      clear c9
      have H':=Am H
      clear H
      have hnb10:=NB335_336.out
      have hnc10:=NB336_335.out
      have hcz11_0 : w5.cell? ⟨gb335,0,none⟩ = some (.slice A0_0 l0_0.length c0_0):=(kC BK335.out 0).trans rfl
      have hcz11_1 : w5.cell? ⟨gb335,1,none⟩ = some (.slice A0_1 l0_1.length c0_1):=(kC BK335.out 1).trans rfl
      have hcz11_2 : w5.cell? ⟨gb335,2,none⟩ = some (.int .i64 a0_2):=(kC BK335.out 2).trans rfl
      have hcz11_3 : w5.cell? ⟨gb335,3,none⟩ = some (.int .i64 a0_3):=(kC BK335.out 3).trans rfl
      have hcz11_4 : w5.cell? ⟨gb335,4,none⟩ = some (.int .i64 a0_4):=(kC BK335.out 4).trans rfl
      have hfz11_0:=kF BK335.out 0
      have hfz11_1:=kF BK335.out 1
      have hfz11_2:=kF BK335.out 2
      have hfz11_3:=kF BK335.out 3
      have hfz11_4:=kF BK335.out 4
      have hcz12_0 : w5.cell? ⟨gb336,0,none⟩ = some (.slice A1_0 l1_0.length c1_0):=(kC BK336.out 0).trans rfl
      have hcz12_1 : w5.cell? ⟨gb336,1,none⟩ = some (.slice A1_1 l1_1.length c1_1):=(kC BK336.out 1).trans rfl
      have hcz12_2 : w5.cell? ⟨gb336,2,none⟩ = some (.int .i64 a1_2):=(kC BK336.out 2).trans rfl
      have hcz12_3 : w5.cell? ⟨gb336,3,none⟩ = some (.int .i64 a1_3):=(kC BK336.out 3).trans rfl
      have hcz12_4 : w5.cell? ⟨gb336,4,none⟩ = some (.int .i64 a1_4):=(kC BK336.out 4).trans rfl
      have hfz12_0:=kF BK336.out 0
      have hfz12_1:=kF BK336.out 1
      have hfz12_2:=kF BK336.out 2
      have hfz12_3:=kF BK336.out 3
      have hfz12_4:=kF BK336.out 4
      go_wp2
      repeat (go_quiet (fail);try go_wp2)
      go_meet
      case rel => exact ⟨_,((a0_4 != a1_4)),(by first|rfl|(simp;done)|(simp [*];done)),H',⟨by first|omega|exact Nat.le_refl _⟩,⟨by (with_reducible repeat (first|refine kN ?_ _|refine kD ?_|refine kA ?_ _));exact BK335.out⟩,⟨by (with_reducible repeat (first|refine kN ?_ _|refine kD ?_|refine kA ?_ _));exact BK336.out⟩,⟨by repeat (first|(with_reducible first|exact HB.out|apply bA|apply bN|apply bD|refine bS ?_ GE335.out|refine bS ?_ GE336.out)|exact HB.out)⟩⟩
     ·rw [if_neg c9] at H
      have c9b0 : (a0_3 == a1_3) = false:=beq_eq_false_iff_ne.mpr c9
      have c9b1 : (a0_3 != a1_3) = true:=bne_iff_ne.mpr c9
      have H':=Am H
      clear H
      have hnb13:=NB335_336.out
      have hnc13:=NB336_335.out
      have hcz14_0 : w5.cell? ⟨gb335,0,none⟩ = some (.slice A0_0 l0_0.length c0_0):=(kC BK335.out 0).trans rfl
      have hcz14_1 : w5.cell? ⟨gb335,1,none⟩ = some (.slice A0_1 l0_1.length c0_1):=(kC BK335.out 1).trans rfl
      have hcz14_2 : w5.cell? ⟨gb335,2,none⟩ = some (.int .i64 a0_2):=(kC BK335.out 2).trans rfl
      have hcz14_3 : w5.cell? ⟨gb335,3,none⟩ = some (.int .i64 a0_3):=(kC BK335.out 3).trans rfl
      have hcz14_4 : w5.cell? ⟨gb335,4,none⟩ = some (.int .i64 a0_4):=(kC BK335.out 4).trans rfl
      have hfz14_0:=kF BK335.out 0
      have hfz14_1:=kF BK335.out 1
      have hfz14_2:=kF BK335.out 2
      have hfz14_3:=kF BK335.out 3
      have hfz14_4:=kF BK335.out 4
      have hcz15_0 : w5.cell? ⟨gb336,0,none⟩ = some (.slice A1_0 l1_0.length c1_0):=(kC BK336.out 0).trans rfl
      have hcz15_1 : w5.cell? ⟨gb336,1,none⟩ = some (.slice A1_1 l1_1.length c1_1):=(kC BK336.out 1).trans rfl
      have hcz15_2 : w5.cell? ⟨gb336,2,none⟩ = some (.int .i64 a1_2):=(kC BK336.out 2).trans rfl
      have hcz15_3 : w5.cell? ⟨gb336,3,none⟩ = some (.int .i64 a1_3):=(kC BK336.out 3).trans rfl
      have hcz15_4 : w5.cell? ⟨gb336,4,none⟩ = some (.int .i64 a1_4):=(kC BK336.out 4).trans rfl
      have hfz15_0:=kF BK336.out 0
      have hfz15_1:=kF BK336.out 1
      have hfz15_2:=kF BK336.out 2
      have hfz15_3:=kF BK336.out 3
      have hfz15_4:=kF BK336.out 4
      go_wp2
      repeat (go_quiet (fail);try go_wp2)
      go_meet
      case rel => exact ⟨_,(true),(by first|rfl|(simp;done)|(simp [*];done)),H',⟨by first|omega|exact Nat.le_refl _⟩,⟨by (with_reducible repeat (first|refine kN ?_ _|refine kD ?_|refine kA ?_ _));exact BK335.out⟩,⟨by (with_reducible repeat (first|refine kN ?_ _|refine kD ?_|refine kA ?_ _));exact BK336.out⟩,⟨by repeat (first|(with_reducible first|exact HB.out|apply bA|apply bN|apply bD|refine bS ?_ GE335.out|refine bS ?_ GE336.out)|exact HB.out)⟩⟩
    ·rw [if_neg c8] at H
     have c8b0 : (a0_2 == a1_2) = false:=beq_eq_false_iff_ne.mpr c8
     have c8b1 : (a0_2 != a1_2) = true:=bne_iff_ne.mpr c8
     have H':=Am H
     clear H
     have hnb16:=NB335_336.out
     have hnc16:=NB336_335.out
     have hcz17_0 : w5.cell? ⟨gb335,0,none⟩ = some (.slice A0_0 l0_0.length c0_0):=(kC BK335.out 0).trans rfl
     have hcz17_1 : w5.cell? ⟨gb335,1,none⟩ = some (.slice A0_1 l0_1.length c0_1):=(kC BK335.out 1).trans rfl
     have hcz17_2 : w5.cell? ⟨gb335,2,none⟩ = some (.int .i64 a0_2):=(kC BK335.out 2).trans rfl
     have hcz17_3 : w5.cell? ⟨gb335,3,none⟩ = some (.int .i64 a0_3):=(kC BK335.out 3).trans rfl
     have hcz17_4 : w5.cell? ⟨gb335,4,none⟩ = some (.int .i64 a0_4):=(kC BK335.out 4).trans rfl
     have hfz17_0:=kF BK335.out 0
     have hfz17_1:=kF BK335.out 1
     have hfz17_2:=kF BK335.out 2
     have hfz17_3:=kF BK335.out 3
     have hfz17_4:=kF BK335.out 4
     have hcz18_0 : w5.cell? ⟨gb336,0,none⟩ = some (.slice A1_0 l1_0.length c1_0):=(kC BK336.out 0).trans rfl
     have hcz18_1 : w5.cell? ⟨gb336,1,none⟩ = some (.slice A1_1 l1_1.length c1_1):=(kC BK336.out 1).trans rfl
     have hcz18_2 : w5.cell? ⟨gb336,2,none⟩ = some (.int .i64 a1_2):=(kC BK336.out 2).trans rfl
     have hcz18_3 : w5.cell? ⟨gb336,3,none⟩ = some (.int .i64 a1_3):=(kC BK336.out 3).trans rfl
     have hcz18_4 : w5.cell? ⟨gb336,4,none⟩ = some (.int .i64 a1_4):=(kC BK336.out 4).trans rfl
     have hfz18_0:=kF BK336.out 0
     have hfz18_1:=kF BK336.out 1
     have hfz18_2:=kF BK336.out 2
     have hfz18_3:=kF BK336.out 3
     have hfz18_4:=kF BK336.out 4
     go_wp2
     repeat (go_quiet (fail);try go_wp2)
     go_meet
     case rel => exact ⟨_,(true),(by first|rfl|(simp;done)|(simp [*];done)),H',⟨by first|omega|exact Nat.le_refl _⟩,⟨by (with_reducible repeat (first|refine kN ?_ _|refine kD ?_|refine kA ?_ _));exact BK335.out⟩,⟨by (with_reducible repeat (first|refine kN ?_ _|refine kD ?_|refine kA ?_ _));exact BK336.out⟩,⟨by repeat (first|(with_reducible first|exact HB.out|apply bA|apply bN|apply bD|refine bS ?_ GE335.out|refine bS ?_ GE336.out)|exact HB.out)⟩⟩
   ·rw [if_neg c7] at H
    have c7b0 : ((l0_1.length : Int) == (l1_1.length : Int)) = false:=beq_eq_false_iff_ne.mpr c7
    have c7b1 : ((l0_1.length : Int) != (l1_1.length : Int)) = true:=bne_iff_ne.mpr c7
    have c7b2 : (l0_1.length == l1_1.length) = false:=by first|simpa using c7|(simp at c7 ⊢;omega)
    have H':=Am H
    clear H
    have hnb19:=NB335_336.out
    have hnc19:=NB336_335.out
    have hcz20_0 : w5.cell? ⟨gb335,0,none⟩ = some (.slice A0_0 l0_0.length c0_0):=(kC BK335.out 0).trans rfl
    have hcz20_1 : w5.cell? ⟨gb335,1,none⟩ = some (.slice A0_1 l0_1.length c0_1):=(kC BK335.out 1).trans rfl
    have hcz20_2 : w5.cell? ⟨gb335,2,none⟩ = some (.int .i64 a0_2):=(kC BK335.out 2).trans rfl
    have hcz20_3 : w5.cell? ⟨gb335,3,none⟩ = some (.int .i64 a0_3):=(kC BK335.out 3).trans rfl
    have hcz20_4 : w5.cell? ⟨gb335,4,none⟩ = some (.int .i64 a0_4):=(kC BK335.out 4).trans rfl
    have hfz20_0:=kF BK335.out 0
    have hfz20_1:=kF BK335.out 1
    have hfz20_2:=kF BK335.out 2
    have hfz20_3:=kF BK335.out 3
    have hfz20_4:=kF BK335.out 4
    have hcz21_0 : w5.cell? ⟨gb336,0,none⟩ = some (.slice A1_0 l1_0.length c1_0):=(kC BK336.out 0).trans rfl
    have hcz21_1 : w5.cell? ⟨gb336,1,none⟩ = some (.slice A1_1 l1_1.length c1_1):=(kC BK336.out 1).trans rfl
    have hcz21_2 : w5.cell? ⟨gb336,2,none⟩ = some (.int .i64 a1_2):=(kC BK336.out 2).trans rfl
    have hcz21_3 : w5.cell? ⟨gb336,3,none⟩ = some (.int .i64 a1_3):=(kC BK336.out 3).trans rfl
    have hcz21_4 : w5.cell? ⟨gb336,4,none⟩ = some (.int .i64 a1_4):=(kC BK336.out 4).trans rfl
    have hfz21_0:=kF BK336.out 0
    have hfz21_1:=kF BK336.out 1
    have hfz21_2:=kF BK336.out 2
    have hfz21_3:=kF BK336.out 3
    have hfz21_4:=kF BK336.out 4
    go_wp2
    repeat (go_quiet (fail);try go_wp2)
    go_meet
    case rel => exact ⟨_,(true),(by first|rfl|(simp;done)|(simp [*];done)),H',⟨by first|omega|exact Nat.le_refl _⟩,⟨by (with_reducible repeat (first|refine kN ?_ _|refine kD ?_|refine kA ?_ _));exact BK335.out⟩,⟨by (with_reducible repeat (first|refine kN ?_ _|refine kD ?_|refine kA ?_ _));exact BK336.out⟩,⟨by repeat (first|(with_reducible first|exact HB.out|apply bA|apply bN|apply bD|refine bS ?_ GE335.out|refine bS ?_ GE336.out)|exact HB.out)⟩⟩
  ·rw [if_neg c6] at H
   have c6b0 : ((l0_0.length : Int) == (l1_0.length : Int)) = false:=beq_eq_false_iff_ne.mpr c6
   have c6b1 : ((l0_0.length : Int) != (l1_0.length : Int)) = true:=bne_iff_ne.mpr c6
   have c6b2 : (l0_0.length == l1_0.length) = false:=by first|simpa using c6|(simp at c6 ⊢;omega)
   (first|rw [c6b0]|(simp only [i64_w,i32_w];rw [c6b0])|skip)
   have H':=Am H
   clear H
   have hnb22:=NB335_336.out
   have hnc22:=NB336_335.out
   have hcz23_0 : w5.cell? ⟨gb335,0,none⟩ = some (.slice A0_0 l0_0.length c0_0):=(kC BK335.out 0).trans rfl
   have hcz23_1 : w5.cell? ⟨gb335,1,none⟩ = some (.slice A0_1 l0_1.length c0_1):=(kC BK335.out 1).trans rfl
   have hcz23_2 : w5.cell? ⟨gb335,2,none⟩ = some (.int .i64 a0_2):=(kC BK335.out 2).trans rfl
   have hcz23_3 : w5.cell? ⟨gb335,3,none⟩ = some (.int .i64 a0_3):=(kC BK335.out 3).trans rfl
   have hcz23_4 : w5.cell? ⟨gb335,4,none⟩ = some (.int .i64 a0_4):=(kC BK335.out 4).trans rfl
   have hfz23_0:=kF BK335.out 0
   have hfz23_1:=kF BK335.out 1
   have hfz23_2:=kF BK335.out 2
   have hfz23_3:=kF BK335.out 3
   have hfz23_4:=kF BK335.out 4
   have hcz24_0 : w5.cell? ⟨gb336,0,none⟩ = some (.slice A1_0 l1_0.length c1_0):=(kC BK336.out 0).trans rfl
   have hcz24_1 : w5.cell? ⟨gb336,1,none⟩ = some (.slice A1_1 l1_1.length c1_1):=(kC BK336.out 1).trans rfl
   have hcz24_2 : w5.cell? ⟨gb336,2,none⟩ = some (.int .i64 a1_2):=(kC BK336.out 2).trans rfl
   have hcz24_3 : w5.cell? ⟨gb336,3,none⟩ = some (.int .i64 a1_3):=(kC BK336.out 3).trans rfl
   have hcz24_4 : w5.cell? ⟨gb336,4,none⟩ = some (.int .i64 a1_4):=(kC BK336.out 4).trans rfl
   have hfz24_0:=kF BK336.out 0
   have hfz24_1:=kF BK336.out 1
   have hfz24_2:=kF BK336.out 2
   have hfz24_3:=kF BK336.out 3
   have hfz24_4:=kF BK336.out 4
   go_wp2
   repeat (go_quiet (fail);try go_wp2)
   go_meet
   case rel => exact ⟨_,(true),(by first|rfl|(simp;done)|(simp [*];done)),H',⟨by first|omega|exact Nat.le_refl _⟩,⟨by (with_reducible repeat (first|refine kN ?_ _|refine kD ?_|refine kA ?_ _));exact BK335.out⟩,⟨by (with_reducible repeat (first|refine kN ?_ _|refine kD ?_|refine kA ?_ _));exact BK336.out⟩,⟨by repeat (first|(with_reducible first|exact HB.out|apply bA|apply bN|apply bD|refine bS ?_ GE335.out|refine bS ?_ GE336.out)|exact HB.out)⟩⟩
 case rest =>
  clear HC3
  try clear c1
  try clear c2
  try clear p2
  try clear c6
  try clear c6b0
  try clear c6b1
  try clear c6b2
  try clear c7
  try clear c7b0
  try clear c7b1
  try clear c7b2
  try clear c8
  try clear c8b0
  try clear c8b1
  try clear c9
  try clear c9b0
  try clear c9b1
  try clear c10
  try clear c13
  try clear c16
  try clear c19
  try clear c22
  try clear hcz11_0
  try clear hcz11_1
  try clear hcz11_2
  try clear hcz11_3
  try clear hcz11_4
  try clear hcz12_0
  try clear hcz12_1
  try clear hcz12_2
  try clear hcz12_3
  try clear hcz12_4
  try clear hcz14_0
  try clear hcz14_1
  try clear hcz14_2
  try clear hcz14_3
  try clear hcz14_4
  try clear hcz15_0
  try clear hcz15_1
  try clear hcz15_2
  try clear hcz15_3
  try clear hcz15_4
  try clear hcz17_0
  try clear hcz17_1
  try clear hcz17_2
  try clear hcz17_3
  try clear hcz17_4
  try clear hcz18_0
  try clear hcz18_1
  try clear hcz18_2
  try clear hcz18_3
  try clear hcz18_4
  try clear hcz20_0
  try clear hcz20_1
  try clear hcz20_2
  try clear hcz20_3
  try clear hcz20_4
  try clear hcz21_0
  try clear hcz21_1
  try clear hcz21_2
  try clear hcz21_3
  try clear hcz21_4
  try clear hcz23_0
  try clear hcz23_1
  try clear hcz23_2
  try clear hcz23_3
  try clear hcz23_4
  try clear hcz24_0
  try clear hcz24_1
  try clear hcz24_2
  try clear hcz24_3
  try clear hcz24_4
  try clear hfz11_0
  try clear hfz11_1
  try clear hfz11_2
  try clear hfz11_3
  try clear hfz11_4
  try clear hfz12_0
  try clear hfz12_1
  try clear hfz12_2
  try clear hfz12_3
  try clear hfz12_4
  try clear hfz14_0
  try clear hfz14_1
  try clear hfz14_2
  try clear hfz14_3
  try clear hfz14_4
  try clear hfz15_0
  try clear hfz15_1
  try clear hfz15_2
  try clear hfz15_3
  try clear hfz15_4
  try clear hfz17_0
  try clear hfz17_1
  try clear hfz17_2
  try clear hfz17_3
  try clear hfz17_4
  try clear hfz18_0
  try clear hfz18_1
  try clear hfz18_2
  try clear hfz18_3
  try clear hfz18_4
  try clear hfz20_0
  try clear hfz20_1
  try clear hfz20_2
  try clear hfz20_3
  try clear hfz20_4
  try clear hfz21_0
  try clear hfz21_1
  try clear hfz21_2
  try clear hfz21_3
  try clear hfz21_4
  try clear hfz23_0
  try clear hfz23_1
  try clear hfz23_2
  try clear hfz23_3
  try clear hfz23_4
  try clear hfz24_0
  try clear hfz24_1
  try clear hfz24_2
  try clear hfz24_3
  try clear hfz24_4
  obtain ⟨kq,x43_2,rfl,HA,HJ2,BK335,BK336,HB⟩:=hcut
  cases kq with
  | zero => exact absurd HA.out (by simp [laws_wProfile.j0])
  | succ kj2 =>
   have H:=HA.out
   clear HA
   simp only [laws_wProfile.j0] at H
   by_cases c25 : x43_2 = true
   ·subst c25
    have H1 : (some false) = some r:=by rw [if_pos rfl] at H;exact H
    clear H
    have H:=H1
    clear H1
    obtain rfl:=Option.some.inj H
    go_wp2
    repeat (go_quiet (fail);try go_wp2)
    go_ret
    exact ⟨by first|rfl|(simp [errW_none,errW_some] <;> rfl)|(simp [*,errW_none,errW_some] <;> rfl),by repeat (first|(with_reducible first|exact HB.out|apply bA|apply bN|apply bD|refine bS ?_ GE335.out|refine bS ?_ GE336.out)|exact HB.out)⟩
   ·replace c25:=Bool.eq_false_iff.mpr c25
    subst c25
    have H1 : (laws_wProfile.l0 kj2 (l0_0.length : Int) 0 l0_0 l0_1 a0_2 a0_3 a0_4 l1_0 l1_1 a1_2 a1_3 a1_4) = some r:=by rw [if_neg (show ¬ (false = true) by decide)] at H;exact H
    clear H
    have H:=H1
    clear H1
    have H':=Am H
    clear H
    have hnb26:=NB335_336.out
    have hnc26:=NB336_335.out
    have hcz27_0 : wc.cell? ⟨gb335,0,none⟩ = some (.slice A0_0 l0_0.length c0_0):=(kC BK335.out 0).trans rfl
    have hcz27_1 : wc.cell? ⟨gb335,1,none⟩ = some (.slice A0_1 l0_1.length c0_1):=(kC BK335.out 1).trans rfl
    have hcz27_2 : wc.cell? ⟨gb335,2,none⟩ = some (.int .i64 a0_2):=(kC BK335.out 2).trans rfl
    have hcz27_3 : wc.cell? ⟨gb335,3,none⟩ = some (.int .i64 a0_3):=(kC BK335.out 3).trans rfl
    have hcz27_4 : wc.cell? ⟨gb335,4,none⟩ = some (.int .i64 a0_4):=(kC BK335.out 4).trans rfl
    have hfz27_0:=kF BK335.out 0
    have hfz27_1:=kF BK335.out 1
    have hfz27_2:=kF BK335.out 2
    have hfz27_3:=kF BK335.out 3
    have hfz27_4:=kF BK335.out 4
    go_wp2
    repeat (go_quiet (fail);try go_wp2)
    go_loopg [47] kj2 (fun kq v47 w' => ∃ (x47_2 : Int),v47 = .int .i64 x47_2∧As (laws_wProfile.l0 kq (l0_0.length : Int) x47_2 l0_0 l0_1 a0_2 a0_3 a0_4 l1_0 l1_1 a1_2 a1_3 a1_4 = some r)∧As (kq ≤ kj2)∧As (w'.heap[gb335]? = some (.cells #[(.slice A0_0 l0_0.length c0_0),(.slice A0_1 l0_1.length c0_1),.int .i64 a0_2,.int .i64 a0_3,.int .i64 a0_4] 26 (0,0)))∧As (w'.heap[gb336]? = some (.cells #[(.slice A1_0 l1_0.length c1_0),(.slice A1_1 l1_1.length c1_1),.int .i64 a1_2,.int .i64 a1_3,.int .i64 a1_4] 26 (0,0)))∧As (Below w.heap.size w w'))
    case atStart => exact ⟨(0),(by first|rfl|(simp;done)|(simp [*];done)),H',⟨Nat.le_refl _⟩,⟨by (with_reducible repeat (first|refine kN ?_ _|refine kD ?_|refine kA ?_ _));exact BK335.out⟩,⟨by (with_reducible repeat (first|refine kN ?_ _|refine kD ?_|refine kA ?_ _));exact BK336.out⟩,⟨by repeat (first|(with_reducible first|exact HB.out|apply bA|apply bN|apply bD|refine bS ?_ GE335.out|refine bS ?_ GE336.out)|exact HB.out)⟩⟩
    case round =>
     clear H'
     try clear c1
     try clear c2
     try clear p2
     try clear c6
     try clear c6b0
     try clear c6b1
     try clear c6b2
     try clear c7
     try clear c7b0
     try clear c7b1
     try clear c7b2
     try clear c8
     try clear c8b0
     try clear c8b1
     try clear c9
     try clear c9b0
     try clear c9b1
     try clear c10
     try clear c13
     try clear c16
     try clear c19
     try clear c22
     try clear c25
     try clear c26
     try clear hcz11_0
     try clear hcz11_1
     try clear hcz11_2
     try clear hcz11_3
     try clear hcz11_4
     try clear hcz12_0
     try clear hcz12_1
     try clear hcz12_2
     try clear hcz12_3
     try clear hcz12_4
     try clear hcz14_0
     try clear hcz14_1
     try clear hcz14_2
     try clear hcz14_3
     try clear hcz14_4
     try clear hcz15_0
     try clear hcz15_1
     try clear hcz15_2
     try clear hcz15_3
     try clear hcz15_4
     try clear hcz17_0
     try clear hcz17_1
     try clear hcz17_2
     try clear hcz17_3
     try clear hcz17_4
     try clear hcz18_0
     try clear hcz18_1
     try clear hcz18_2
     try clear hcz18_3
     try clear hcz18_4
     try clear hcz20_0
     try clear hcz20_1
     try clear hcz20_2
     try clear hcz20_3
     try clear hcz20_4
     try clear hcz21_0
     try clear hcz21_1
     try clear hcz21_2
     try clear hcz21_3
     try clear hcz21_4
     try clear hcz23_0
     try clear hcz23_1
     try clear hcz23_2
     try clear hcz23_3
     try clear hcz23_4
     try clear hcz24_0
     try clear hcz24_1
     try clear hcz24_2
     try clear hcz24_3
     try clear hcz24_4
     try clear hcz27_0
     try clear hcz27_1
     try clear hcz27_2
     try clear hcz27_3
     try clear hcz27_4
     try clear hfz11_0
     try clear hfz11_1
     try clear hfz11_2
     try clear hfz11_3
     try clear hfz11_4
     try clear hfz12_0
     try clear hfz12_1
     try clear hfz12_2
     try clear hfz12_3
     try clear hfz12_4
     try clear hfz14_0
     try clear hfz14_1
     try clear hfz14_2
     try clear hfz14_3
     try clear hfz14_4
     try clear hfz15_0
     try clear hfz15_1
     try clear hfz15_2
     try clear hfz15_3
     try clear hfz15_4
     try clear hfz17_0
     try clear hfz17_1
     try clear hfz17_2
     try clear hfz17_3
     try clear hfz17_4
     try clear hfz18_0
     try clear hfz18_1
     try clear hfz18_2
     try clear hfz18_3
     try clear hfz18_4
     try clear hfz20_0
     try clear hfz20_1
     try clear hfz20_2
     try clear hfz20_3
     try clear hfz20_4
     try clear hfz21_0
     try clear hfz21_1
     try clear hfz21_2
     try clear hfz21_3
     try clear hfz21_4
     try clear hfz23_0
     try clear hfz23_1
     try clear hfz23_2
     try clear hfz23_3
     try clear hfz23_4
     try clear hfz24_0
     try clear hfz24_1
     try clear hfz24_2
     try clear hfz24_3
     try clear hfz24_4
     try clear hfz27_0
     try clear hfz27_1
     try clear hfz27_2
     try clear hfz27_3
     try clear hfz27_4
     try clear p2
     obtain ⟨x47_2,rfl,HA,HK2,BK335,BK336,HB⟩:=hrel
     cases gk with
     | zero => exact absurd HA.out (by simp [laws_wProfile.l0])
     | succ k2 =>
      have H:=HA.out
      clear HA
      simp only [laws_wProfile.l0] at H
      by_cases c28 : x47_2 < (l0_0.length : Int)
      ·rw [if_pos c28] at H
       have c28b0 : decide (x47_2 < (l0_0.length : Int)) = true:=decide_eq_true c28
       clear c28
       by_cases c29 : 0 ≤ x47_2
       ·rw [if_pos c29] at H
        have c29b0 : decide (0 ≤ x47_2) = true:=decide_eq_true c29
        clear c29
        by_cases c30 : x47_2 < (l0_0.length : Int)
        ·rw [if_pos c30] at H
         have c30b0 : decide (x47_2 < (l0_0.length : Int)) = true:=decide_eq_true c30
         clear c30
         by_cases c31 : x47_2 < (l1_0.length : Int)
         ·rw [if_pos c31] at H
          have c31b0 : decide (x47_2 < (l1_0.length : Int)) = true:=decide_eq_true c31
          clear c31
          by_cases c32 : (!(((rd_T39 l0_0 x47_2).f0) == ((rd_T39 l1_0 x47_2).f0)) || (!(((rd_T39 l0_0 x47_2).f1) == ((rd_T39 l1_0 x47_2).f1)))) = true
          ·rw [if_pos c32] at H
           have c32b0 : (!(((rd_T39 l0_0 x47_2).f0) == ((rd_T39 l1_0 x47_2).f0)) || (!(((rd_T39 l0_0 x47_2).f1) == ((rd_T39 l1_0 x47_2).f1)))) = true:=c32
           clear c32
           obtain rfl:=Option.some.inj H
           have hnb33:=NB335_336.out
           have hnc33:=NB336_335.out
           have hcz34_0 : wr.cell? ⟨gb335,0,none⟩ = some (.slice A0_0 l0_0.length c0_0):=(kC BK335.out 0).trans rfl
           have hcz34_1 : wr.cell? ⟨gb335,1,none⟩ = some (.slice A0_1 l0_1.length c0_1):=(kC BK335.out 1).trans rfl
           have hcz34_2 : wr.cell? ⟨gb335,2,none⟩ = some (.int .i64 a0_2):=(kC BK335.out 2).trans rfl
           have hcz34_3 : wr.cell? ⟨gb335,3,none⟩ = some (.int .i64 a0_3):=(kC BK335.out 3).trans rfl
           have hcz34_4 : wr.cell? ⟨gb335,4,none⟩ = some (.int .i64 a0_4):=(kC BK335.out 4).trans rfl
           have hfz34_0:=kF BK335.out 0
           have hfz34_1:=kF BK335.out 1
           have hfz34_2:=kF BK335.out 2
           have hfz34_3:=kF BK335.out 3
           have hfz34_4:=kF BK335.out 4
           have p337 : 0 ≤ (x47_2 : Int):=of_decide_eq_true (by first|(with_reducible assumption)|assumption)
           have q337 : x47_2 < (l0_0.length : Int):=of_decide_eq_true (by first|(with_reducible assumption)|assumption)
           obtain ⟨ad337,e337,hx337_0,hx337_1⟩:=at_T39 HR0_0.out x47_2 p337 q337
           cases e337
           replace hx337_0:=(HB.out.cell (World.block_lt_of_cell? w _ hx337_0)).trans hx337_0
           replace hx337_1:=(HB.out.cell (World.block_lt_of_cell? w _ hx337_1)).trans hx337_1
           replace p337:=eq_true p337
           replace q337:=eq_true q337
           have hcz35_0 : wr.cell? ⟨gb336,0,none⟩ = some (.slice A1_0 l1_0.length c1_0):=(kC BK336.out 0).trans rfl
           have hcz35_1 : wr.cell? ⟨gb336,1,none⟩ = some (.slice A1_1 l1_1.length c1_1):=(kC BK336.out 1).trans rfl
           have hcz35_2 : wr.cell? ⟨gb336,2,none⟩ = some (.int .i64 a1_2):=(kC BK336.out 2).trans rfl
           have hcz35_3 : wr.cell? ⟨gb336,3,none⟩ = some (.int .i64 a1_3):=(kC BK336.out 3).trans rfl
           have hcz35_4 : wr.cell? ⟨gb336,4,none⟩ = some (.int .i64 a1_4):=(kC BK336.out 4).trans rfl
           have hfz35_0:=kF BK336.out 0
           have hfz35_1:=kF BK336.out 1
           have hfz35_2:=kF BK336.out 2
           have hfz35_3:=kF BK336.out 3
           have hfz35_4:=kF BK336.out 4
           have p338 : 0 ≤ (x47_2 : Int):=of_decide_eq_true (by first|(with_reducible assumption)|assumption)
           have q338 : x47_2 < (l1_0.length : Int):=of_decide_eq_true (by first|(with_reducible assumption)|assumption)
           obtain ⟨ad338,e338,hx338_0,hx338_1⟩:=at_T39 HR1_0.out x47_2 p338 q338
           cases e338
           replace hx338_0:=(HB.out.cell (World.block_lt_of_cell? w _ hx338_0)).trans hx338_0
           replace hx338_1:=(HB.out.cell (World.block_lt_of_cell? w _ hx338_1)).trans hx338_1
           replace p338:=eq_true p338
           replace q338:=eq_true q338
           go_wp2
           repeat (go_quiet (fail);try go_wp2)
           go_ret
           exact ⟨by first|rfl|(simp [errW_none,errW_some] <;> rfl)|(simp [*,errW_none,errW_some] <;> rfl),by repeat (first|(with_reducible first|exact HB.out|apply bA|apply bN|apply bD|refine bS ?_ GE335.out|refine bS ?_ GE336.out)|exact HB.out)⟩
          ·rw [if_neg c32] at H
           have c32b0 : (!(((rd_T39 l0_0 x47_2).f0) == ((rd_T39 l1_0 x47_2).f0)) || (!(((rd_T39 l0_0 x47_2).f1) == ((rd_T39 l1_0 x47_2).f1)))) = false:=by simpa using c32
           clear c32
           have H':=Am H
           clear H
           have hnb36:=NB335_336.out
           have hnc36:=NB336_335.out
           have hcz37_0 : wr.cell? ⟨gb335,0,none⟩ = some (.slice A0_0 l0_0.length c0_0):=(kC BK335.out 0).trans rfl
           have hcz37_1 : wr.cell? ⟨gb335,1,none⟩ = some (.slice A0_1 l0_1.length c0_1):=(kC BK335.out 1).trans rfl
           have hcz37_2 : wr.cell? ⟨gb335,2,none⟩ = some (.int .i64 a0_2):=(kC BK335.out 2).trans rfl
           have hcz37_3 : wr.cell? ⟨gb335,3,none⟩ = some (.int .i64 a0_3):=(kC BK335.out 3).trans rfl
           have hcz37_4 : wr.cell? ⟨gb335,4,none⟩ = some (.int .i64 a0_4):=(kC BK335.out 4).trans rfl
           have hfz37_0:=kF BK335.out 0
           have hfz37_1:=kF BK335.out 1
           have hfz37_2:=kF BK335.out 2
           have hfz37_3:=kF BK335.out 3
           have hfz37_4:=kF BK335.out 4
           have p337 : 0 ≤ (x47_2 : Int):=of_decide_eq_true (by first|(with_reducible assumption)|assumption)
           have q337 : x47_2 < (l0_0.length : Int):=of_decide_eq_true (by first|(with_reducible assumption)|assumption)
           obtain ⟨ad337,e337,hx337_0,hx337_1⟩:=at_T39 HR0_0.out x47_2 p337 q337
           cases e337
           replace hx337_0:=(HB.out.cell (World.block_lt_of_cell? w _ hx337_0)).trans hx337_0
           replace hx337_1:=(HB.out.cell (World.block_lt_of_cell? w _ hx337_1)).trans hx337_1
           replace p337:=eq_true p337
           replace q337:=eq_true q337
           have hcz38_0 : wr.cell? ⟨gb336,0,none⟩ = some (.slice A1_0 l1_0.length c1_0):=(kC BK336.out 0).trans rfl
           have hcz38_1 : wr.cell? ⟨gb336,1,none⟩ = some (.slice A1_1 l1_1.length c1_1):=(kC BK336.out 1).trans rfl
           have hcz38_2 : wr.cell? ⟨gb336,2,none⟩ = some (.int .i64 a1_2):=(kC BK336.out 2).trans rfl
           have hcz38_3 : wr.cell? ⟨gb336,3,none⟩ = some (.int .i64 a1_3):=(kC BK336.out 3).trans rfl
           have hcz38_4 : wr.cell? ⟨gb336,4,none⟩ = some (.int .i64 a1_4):=(kC BK336.out 4).trans rfl
           have hfz38_0:=kF BK336.out 0
           have hfz38_1:=kF BK336.out 1
           have hfz38_2:=kF BK336.out 2
           have hfz38_3:=kF BK336.out 3
           have hfz38_4:=kF BK336.out 4
           have p338 : 0 ≤ (x47_2 : Int):=of_decide_eq_true (by first|(with_reducible assumption)|assumption)
           have q338 : x47_2 < (l1_0.length : Int):=of_decide_eq_true (by first|(with_reducible assumption)|assumption)
           obtain ⟨ad338,e338,hx338_0,hx338_1⟩:=at_T39 HR1_0.out x47_2 p338 q338
           cases e338
           replace hx338_0:=(HB.out.cell (World.block_lt_of_cell? w _ hx338_0)).trans hx338_0
           replace hx338_1:=(HB.out.cell (World.block_lt_of_cell? w _ hx338_1)).trans hx338_1
           replace p338:=eq_true p338
           replace q338:=eq_true q338
           go_wp2
           repeat (go_quiet (fail);try go_wp2)
           go_roundg k2
           case measure => have:=HJ2.out;have:=HK2.out;omega
           case rel => exact ⟨(wrap64 (x47_2 + 1)),(by first|rfl|(simp;done)|(simp [*];done)),H',⟨by have:=HJ2.out;have:=HK2.out;omega⟩,⟨by (with_reducible repeat (first|refine kN ?_ _|refine kD ?_|refine kA ?_ _));exact BK335.out⟩,⟨by (with_reducible repeat (first|refine kN ?_ _|refine kD ?_|refine kA ?_ _));exact BK336.out⟩,⟨by repeat (first|(with_reducible first|exact HB.out|apply bA|apply bN|apply bD|refine bS ?_ GE335.out|refine bS ?_ GE336.out)|exact HB.out)⟩⟩
         ·rw [if_neg c31] at H
          exact absurd H (by simp)
        ·rw [if_neg c30] at H
         exact absurd H (by simp)
       ·rw [if_neg c29] at H
        exact absurd H (by simp)
      ·rw [if_neg c28] at H
       have c28b0 : decide (x47_2 < (l0_0.length : Int)) = false:=decide_eq_false c28
       clear c28
       have H':=Am H
       clear H
       have hnb39:=NB335_336.out
       have hnc39:=NB336_335.out
       have hcz40_0 : wr.cell? ⟨gb335,0,none⟩ = some (.slice A0_0 l0_0.length c0_0):=(kC BK335.out 0).trans rfl
       have hcz40_1 : wr.cell? ⟨gb335,1,none⟩ = some (.slice A0_1 l0_1.length c0_1):=(kC BK335.out 1).trans rfl
       have hcz40_2 : wr.cell? ⟨gb335,2,none⟩ = some (.int .i64 a0_2):=(kC BK335.out 2).trans rfl
       have hcz40_3 : wr.cell? ⟨gb335,3,none⟩ = some (.int .i64 a0_3):=(kC BK335.out 3).trans rfl
       have hcz40_4 : wr.cell? ⟨gb335,4,none⟩ = some (.int .i64 a0_4):=(kC BK335.out 4).trans rfl
       have hfz40_0:=kF BK335.out 0
       have hfz40_1:=kF BK335.out 1
       have hfz40_2:=kF BK335.out 2
       have hfz40_3:=kF BK335.out 3
       have hfz40_4:=kF BK335.out 4
       go_wp2
       repeat (go_quiet (fail);try go_wp2)
       go_loopg [65] k2 (fun kq v65 w' => ∃ (x65_3 : Int),v65 = .int .i64 x65_3∧As (laws_wProfile.l1 kq (l0_1.length : Int) x65_3 l0_0 l0_1 a0_2 a0_3 a0_4 l1_0 l1_1 a1_2 a1_3 a1_4 = some r)∧As (kq ≤ k2)∧As (w'.heap[gb335]? = some (.cells #[(.slice A0_0 l0_0.length c0_0),(.slice A0_1 l0_1.length c0_1),.int .i64 a0_2,.int .i64 a0_3,.int .i64 a0_4] 26 (0,0)))∧As (w'.heap[gb336]? = some (.cells #[(.slice A1_0 l1_0.length c1_0),(.slice A1_1 l1_1.length c1_1),.int .i64 a1_2,.int .i64 a1_3,.int .i64 a1_4] 26 (0,0)))∧As (Below w.heap.size w w'))
       case atStart => exact ⟨(0),(by first|rfl|(simp;done)|(simp [*];done)),H',⟨Nat.le_refl _⟩,⟨by (with_reducible repeat (first|refine kN ?_ _|refine kD ?_|refine kA ?_ _));exact BK335.out⟩,⟨by (with_reducible repeat (first|refine kN ?_ _|refine kD ?_|refine kA ?_ _));exact BK336.out⟩,⟨by repeat (first|(with_reducible first|exact HB.out|apply bA|apply bN|apply bD|refine bS ?_ GE335.out|refine bS ?_ GE336.out)|exact HB.out)⟩⟩
       case round =>
        clear H'
        try clear c1
        try clear c2
        try clear p2
        try clear c3
        try clear p3
        try clear q3
        try clear hx3
        try clear c6
        try clear c6b0
        try clear c6b1
        try clear c6b2
        try clear p6
        try clear c7
        try clear c7b0
        try clear c7b1
        try clear c7b2
        try clear c8
        try clear c8b0
        try clear c8b1
        try clear c9
        try clear c9b0
        try clear c9b1
        try clear c10
        try clear c13
        try clear c16
        try clear c19
        try clear c22
        try clear c25
        try clear c26
        try clear c28
        try clear c28b0
        try clear c29
        try clear c29b0
        try clear c30
        try clear c30b0
        try clear c31
        try clear c31b0
        try clear c32
        try clear c32b0
        try clear c33
        try clear p33
        try clear q33
        try clear hx33
        try clear c36
        try clear c39
        try clear hcz11_0
        try clear hcz11_1
        try clear hcz11_2
        try clear hcz11_3
        try clear hcz11_4
        try clear hcz12_0
        try clear hcz12_1
        try clear hcz12_2
        try clear hcz12_3
        try clear hcz12_4
        try clear hcz14_0
        try clear hcz14_1
        try clear hcz14_2
        try clear hcz14_3
        try clear hcz14_4
        try clear hcz15_0
        try clear hcz15_1
        try clear hcz15_2
        try clear hcz15_3
        try clear hcz15_4
        try clear hcz17_0
        try clear hcz17_1
        try clear hcz17_2
        try clear hcz17_3
        try clear hcz17_4
        try clear hcz18_0
        try clear hcz18_1
        try clear hcz18_2
        try clear hcz18_3
        try clear hcz18_4
        try clear hcz20_0
        try clear hcz20_1
        try clear hcz20_2
        try clear hcz20_3
        try clear hcz20_4
        try clear hcz21_0
        try clear hcz21_1
        try clear hcz21_2
        try clear hcz21_3
        try clear hcz21_4
        try clear hcz23_0
        try clear hcz23_1
        try clear hcz23_2
        try clear hcz23_3
        try clear hcz23_4
        try clear hcz24_0
        try clear hcz24_1
        try clear hcz24_2
        try clear hcz24_3
        try clear hcz24_4
        try clear hcz27_0
        try clear hcz27_1
        try clear hcz27_2
        try clear hcz27_3
        try clear hcz27_4
        try clear hcz34_0
        try clear hcz34_1
        try clear hcz34_2
        try clear hcz34_3
        try clear hcz34_4
        try clear hcz35_0
        try clear hcz35_1
        try clear hcz35_2
        try clear hcz35_3
        try clear hcz35_4
        try clear hcz37_0
        try clear hcz37_1
        try clear hcz37_2
        try clear hcz37_3
        try clear hcz37_4
        try clear hcz38_0
        try clear hcz38_1
        try clear hcz38_2
        try clear hcz38_3
        try clear hcz38_4
        try clear hcz40_0
        try clear hcz40_1
        try clear hcz40_2
        try clear hcz40_3
        try clear hcz40_4
        try clear hfz11_0
        try clear hfz11_1
        try clear hfz11_2
        try clear hfz11_3
        try clear hfz11_4
        try clear hfz12_0
        try clear hfz12_1
        try clear hfz12_2
        try clear hfz12_3
        try clear hfz12_4
        try clear hfz14_0
        try clear hfz14_1
        try clear hfz14_2
        try clear hfz14_3
        try clear hfz14_4
        try clear hfz15_0
        try clear hfz15_1
        try clear hfz15_2
        try clear hfz15_3
        try clear hfz15_4
        try clear hfz17_0
        try clear hfz17_1
        try clear hfz17_2
        try clear hfz17_3
        try clear hfz17_4
        try clear hfz18_0
        try clear hfz18_1
        try clear hfz18_2
        try clear hfz18_3
        try clear hfz18_4
        try clear hfz20_0
        try clear hfz20_1
        try clear hfz20_2
        try clear hfz20_3
        try clear hfz20_4
        try clear hfz21_0
        try clear hfz21_1
        try clear hfz21_2
        try clear hfz21_3
        try clear hfz21_4
        try clear hfz23_0
        try clear hfz23_1
        try clear hfz23_2
        try clear hfz23_3
        try clear hfz23_4
        try clear hfz24_0
        try clear hfz24_1
        try clear hfz24_2
        try clear hfz24_3
        try clear hfz24_4
        try clear hfz27_0
        try clear hfz27_1
        try clear hfz27_2
        try clear hfz27_3
        try clear hfz27_4
        try clear hfz34_0
        try clear hfz34_1
        try clear hfz34_2
        try clear hfz34_3
        try clear hfz34_4
        try clear hfz35_0
        try clear hfz35_1
        try clear hfz35_2
        try clear hfz35_3
        try clear hfz35_4
        try clear hfz37_0
        try clear hfz37_1
        try clear hfz37_2
        try clear hfz37_3
        try clear hfz37_4
        try clear hfz38_0
        try clear hfz38_1
        try clear hfz38_2
        try clear hfz38_3
        try clear hfz38_4
        try clear hfz40_0
        try clear hfz40_1
        try clear hfz40_2
        try clear hfz40_3
        try clear hfz40_4
        try clear hx337_0
        try clear hx337_1
        try clear hx338_0
        try clear hx338_1
        try clear p2
        try clear p337
        try clear p338
        try clear q337
        try clear q338
        obtain ⟨x65_3,rfl,HA,HK3,BK335,BK336,HB⟩:=hrel
        cases gk with
        | zero => exact absurd HA.out (by simp [laws_wProfile.l1])
        | succ k3 =>
         have H:=HA.out
         clear HA
         simp only [laws_wProfile.l1] at H
         by_cases c41 : x65_3 < (l0_1.length : Int)
         ·rw [if_pos c41] at H
          have c41b0 : decide (x65_3 < (l0_1.length : Int)) = true:=decide_eq_true c41
          clear c41
          by_cases c42 : 0 ≤ x65_3
          ·rw [if_pos c42] at H
           have c42b0 : decide (0 ≤ x65_3) = true:=decide_eq_true c42
           clear c42
           by_cases c43 : x65_3 < (l0_1.length : Int)
           ·rw [if_pos c43] at H
            have c43b0 : decide (x65_3 < (l0_1.length : Int)) = true:=decide_eq_true c43
            clear c43
            by_cases c44 : x65_3 < (l1_1.length : Int)
            ·rw [if_pos c44] at H
             have c44b0 : decide (x65_3 < (l1_1.length : Int)) = true:=decide_eq_true c44
             clear c44
             by_cases c45 : (!(((rd_T45 l0_1 x65_3).f0) == ((rd_T45 l1_1 x65_3).f0)) || (!(((rd_T45 l0_1 x65_3).f1) == ((rd_T45 l1_1 x65_3).f1)) || (!(((rd_T45 l0_1 x65_3).f2) == ((rd_T45 l1_1 x65_3).f2))))) = true
             ·rw [if_pos c45] at H
              have c45b0 : (!(((rd_T45 l0_1 x65_3).f0) == ((rd_T45 l1_1 x65_3).f0)) || (!(((rd_T45 l0_1 x65_3).f1) == ((rd_T45 l1_1 x65_3).f1)) || (!(((rd_T45 l0_1 x65_3).f2) == ((rd_T45 l1_1 x65_3).f2))))) = true:=c45
              clear c45
              obtain rfl:=Option.some.inj H
              have hnb46:=NB335_336.out
              have hnc46:=NB336_335.out
              have hcz47_0 : wr.cell? ⟨gb335,0,none⟩ = some (.slice A0_0 l0_0.length c0_0):=(kC BK335.out 0).trans rfl
              have hcz47_1 : wr.cell? ⟨gb335,1,none⟩ = some (.slice A0_1 l0_1.length c0_1):=(kC BK335.out 1).trans rfl
              have hcz47_2 : wr.cell? ⟨gb335,2,none⟩ = some (.int .i64 a0_2):=(kC BK335.out 2).trans rfl
              have hcz47_3 : wr.cell? ⟨gb335,3,none⟩ = some (.int .i64 a0_3):=(kC BK335.out 3).trans rfl
              have hcz47_4 : wr.cell? ⟨gb335,4,none⟩ = some (.int .i64 a0_4):=(kC BK335.out 4).trans rfl
              have hfz47_0:=kF BK335.out 0
              have hfz47_1:=kF BK335.out 1
              have hfz47_2:=kF BK335.out 2
              have hfz47_3:=kF BK335.out 3
              have hfz47_4:=kF BK335.out 4
              have p339 : 0 ≤ (x65_3 : Int):=of_decide_eq_true (by first|(with_reducible assumption)|assumption)
              have q339 : x65_3 < (l0_1.length : Int):=of_decide_eq_true (by first|(with_reducible assumption)|assumption)
              obtain ⟨ad339,e339,hx339_0,hx339_1,hx339_2⟩:=at_T45 HR0_1.out x65_3 p339 q339
              cases e339
              replace hx339_0:=(HB.out.cell (World.block_lt_of_cell? w _ hx339_0)).trans hx339_0
              replace hx339_1:=(HB.out.cell (World.block_lt_of_cell? w _ hx339_1)).trans hx339_1
              replace hx339_2:=(HB.out.cell (World.block_lt_of_cell? w _ hx339_2)).trans hx339_2
              replace p339:=eq_true p339
              replace q339:=eq_true q339
              have hcz48_0 : wr.cell? ⟨gb336,0,none⟩ = some (.slice A1_0 l1_0.length c1_0):=(kC BK336.out 0).trans rfl
              have hcz48_1 : wr.cell? ⟨gb336,1,none⟩ = some (.slice A1_1 l1_1.length c1_1):=(kC BK336.out 1).trans rfl
              have hcz48_2 : wr.cell? ⟨gb336,2,none⟩ = some (.int .i64 a1_2):=(kC BK336.out 2).trans rfl
              have hcz48_3 : wr.cell? ⟨gb336,3,none⟩ = some (.int .i64 a1_3):=(kC BK336.out 3).trans rfl
              have hcz48_4 : wr.cell? ⟨gb336,4,none⟩ = some (.int .i64 a1_4):=(kC BK336.out 4).trans rfl
              have hfz48_0:=kF BK336.out 0
              have hfz48_1:=kF BK336.out 1
              have hfz48_2:=kF BK336.out 2
              have hfz48_3:=kF BK336.out 3
              have hfz48_4:=kF BK336.out 4
              have p340 : 0 ≤ (x65_3 : Int):=of_decide_eq_true (by first|(with_reducible assumption)|assumption)
              have q340 : x65_3 < (l1_1.length : Int):=of_decide_eq_true (by first|(with_reducible assumption)|assumption)
              obtain ⟨ad340,e340,hx340_0,hx340_1,hx340_2⟩:=at_T45 HR1_1.out x65_3 p340 q340
              cases e340
              replace hx340_0:=(HB.out.cell (World.block_lt_of_cell? w _ hx340_0)).trans hx340_0
              replace hx340_1:=(HB.out.cell (World.block_lt_of_cell? w _ hx340_1)).trans hx340_1
              replace hx340_2:=(HB.out.cell (World.block_lt_of_cell? w _ hx340_2)).trans hx340_2
              replace p340:=eq_true p340
              replace q340:=eq_true q340
              go_wp2
              repeat (go_quiet (fail);try go_wp2)
              go_ret
              exact ⟨by first|rfl|(simp [errW_none,errW_some] <;> rfl)|(simp [*,errW_none,errW_some] <;> rfl),by repeat (first|(with_reducible first|exact HB.out|apply bA|apply bN|apply bD|refine bS ?_ GE335.out|refine bS ?_ GE336.out)|exact HB.out)⟩
             ·rw [if_neg c45] at H
              have c45b0 : (!(((rd_T45 l0_1 x65_3).f0) == ((rd_T45 l1_1 x65_3).f0)) || (!(((rd_T45 l0_1 x65_3).f1) == ((rd_T45 l1_1 x65_3).f1)) || (!(((rd_T45 l0_1 x65_3).f2) == ((rd_T45 l1_1 x65_3).f2))))) = false:=by simpa using c45
              clear c45
              have H':=Am H
              clear H
              have hnb49:=NB335_336.out
              have hnc49:=NB336_335.out
              have hcz50_0 : wr.cell? ⟨gb335,0,none⟩ = some (.slice A0_0 l0_0.length c0_0):=(kC BK335.out 0).trans rfl
              have hcz50_1 : wr.cell? ⟨gb335,1,none⟩ = some (.slice A0_1 l0_1.length c0_1):=(kC BK335.out 1).trans rfl
              have hcz50_2 : wr.cell? ⟨gb335,2,none⟩ = some (.int .i64 a0_2):=(kC BK335.out 2).trans rfl
              have hcz50_3 : wr.cell? ⟨gb335,3,none⟩ = some (.int .i64 a0_3):=(kC BK335.out 3).trans rfl
              have hcz50_4 : wr.cell? ⟨gb335,4,none⟩ = some (.int .i64 a0_4):=(kC BK335.out 4).trans rfl
              have hfz50_0:=kF BK335.out 0
              have hfz50_1:=kF BK335.out 1
              have hfz50_2:=kF BK335.out 2
              have hfz50_3:=kF BK335.out 3
              have hfz50_4:=kF BK335.out 4
              have p339 : 0 ≤ (x65_3 : Int):=of_decide_eq_true (by first|(with_reducible assumption)|assumption)
              have q339 : x65_3 < (l0_1.length : Int):=of_decide_eq_true (by first|(with_reducible assumption)|assumption)
              obtain ⟨ad339,e339,hx339_0,hx339_1,hx339_2⟩:=at_T45 HR0_1.out x65_3 p339 q339
              cases e339
              replace hx339_0:=(HB.out.cell (World.block_lt_of_cell? w _ hx339_0)).trans hx339_0
              replace hx339_1:=(HB.out.cell (World.block_lt_of_cell? w _ hx339_1)).trans hx339_1
              replace hx339_2:=(HB.out.cell (World.block_lt_of_cell? w _ hx339_2)).trans hx339_2
              replace p339:=eq_true p339
              replace q339:=eq_true q339
              have hcz51_0 : wr.cell? ⟨gb336,0,none⟩ = some (.slice A1_0 l1_0.length c1_0):=(kC BK336.out 0).trans rfl
              have hcz51_1 : wr.cell? ⟨gb336,1,none⟩ = some (.slice A1_1 l1_1.length c1_1):=(kC BK336.out 1).trans rfl
              have hcz51_2 : wr.cell? ⟨gb336,2,none⟩ = some (.int .i64 a1_2):=(kC BK336.out 2).trans rfl
              have hcz51_3 : wr.cell? ⟨gb336,3,none⟩ = some (.int .i64 a1_3):=(kC BK336.out 3).trans rfl
              have hcz51_4 : wr.cell? ⟨gb336,4,none⟩ = some (.int .i64 a1_4):=(kC BK336.out 4).trans rfl
              have hfz51_0:=kF BK336.out 0
              have hfz51_1:=kF BK336.out 1
              have hfz51_2:=kF BK336.out 2
              have hfz51_3:=kF BK336.out 3
              have hfz51_4:=kF BK336.out 4
              have p340 : 0 ≤ (x65_3 : Int):=of_decide_eq_true (by first|(with_reducible assumption)|assumption)
              have q340 : x65_3 < (l1_1.length : Int):=of_decide_eq_true (by first|(with_reducible assumption)|assumption)
              obtain ⟨ad340,e340,hx340_0,hx340_1,hx340_2⟩:=at_T45 HR1_1.out x65_3 p340 q340
              cases e340
              replace hx340_0:=(HB.out.cell (World.block_lt_of_cell? w _ hx340_0)).trans hx340_0
              replace hx340_1:=(HB.out.cell (World.block_lt_of_cell? w _ hx340_1)).trans hx340_1
              replace hx340_2:=(HB.out.cell (World.block_lt_of_cell? w _ hx340_2)).trans hx340_2
              replace p340:=eq_true p340
              replace q340:=eq_true q340
              go_wp2
              repeat (go_quiet (fail);try go_wp2)
              go_roundg k3
              case measure => have:=HJ2.out;have:=HK2.out;have:=HK3.out;omega
              case rel => exact ⟨(wrap64 (x65_3 + 1)),(by first|rfl|(simp;done)|(simp [*];done)),H',⟨by have:=HJ2.out;have:=HK2.out;have:=HK3.out;omega⟩,⟨by (with_reducible repeat (first|refine kN ?_ _|refine kD ?_|refine kA ?_ _));exact BK335.out⟩,⟨by (with_reducible repeat (first|refine kN ?_ _|refine kD ?_|refine kA ?_ _));exact BK336.out⟩,⟨by repeat (first|(with_reducible first|exact HB.out|apply bA|apply bN|apply bD|refine bS ?_ GE335.out|refine bS ?_ GE336.out)|exact HB.out)⟩⟩
            ·rw [if_neg c44] at H
             exact absurd H (by simp)
           ·rw [if_neg c43] at H
            exact absurd H (by simp)
          ·rw [if_neg c42] at H
           exact absurd H (by simp)
         ·rw [if_neg c41] at H
          have c41b0 : decide (x65_3 < (l0_1.length : Int)) = false:=decide_eq_false c41
          clear c41
          obtain rfl:=Option.some.inj H
          go_wp2
          repeat (go_quiet (fail);try go_wp2)
          go_ret
          exact ⟨by first|rfl|(simp [errW_none,errW_some] <;> rfl)|(simp [*,errW_none,errW_some] <;> rfl),by repeat (first|(with_reducible first|exact HB.out|apply bA|apply bN|apply bD|refine bS ?_ GE335.out|refine bS ?_ GE336.out)|exact HB.out)⟩

end Go.Proofs.Ytanjbdgmnecacaa.PA
