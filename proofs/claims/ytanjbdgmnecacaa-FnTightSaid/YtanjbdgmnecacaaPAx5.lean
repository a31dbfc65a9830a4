-- Written by a program of this session (wip/print/myprint.py) over the kit's print, with contracts of its own; not a text of print.sh's.
import Derived.Test.YtanjbdgmnecacaaPAx0
import Derived.Test.YtanjbdgmnecacaaPAx3
import Derived.Test.YtanjbdgmnecacaaPAx4
namespace Go.Proofs.Ytanjbdgmnecacaa.PA
open Go.RowKit Go.Proofs.YtanjbdgmnecacaaW.PrintWords Go.Proofs.YtanjbdgmnecacaaW.PrintLast Go.Proofs.YtanjbdgmnecacaaW.PrintMore
attribute [local go_sem] max2_int min2_int max_two min_two   -- for this text's walks alone
set_option linter.unusedVariables false
set_option linter.unusedSimpArgs false

/-! ### spec_l6Cur_profile: function 30 -/
mutual
def spec_l6Cur_profile.l0 : Nat → Int → Int → Int → List Int → Int → Int → List (S39) → Int → Int → Int → Option ((List (S39)) × (List (S45)) × Int × Int × Int × Int × Int)
 | 0,_,_,_,_,_,_,_,_,_,_ => none
 | k + 1,x1,x6,x7,x1000,x1001,x1002,x119000,x119002,x119003,x119004 => if x7 > 0 then ((spec_l6Cur_wide.f x1000 x1001 x1002 (wrap64 (80 * x1))).bind fun bt122 => ((spec_l6Cur_steep.f x1000 bt122.2.1 bt122.2.2).bind fun bt125 => (if x119000.length < 8796093022208 then (spec_l6Cur_profile.l0 k x1 (wrap64 (x6 + (wrap64 (1 + bt122.1)))) (wrap64 (x7 - 1)) x1000 bt125.2.1 bt125.2.2 (x119000 ++ [(⟨wrap64 (1 + bt122.1),bt125.1⟩ : S39)]) x119002 x119003 x119004) else (none)))) else ((spec_l6Cur_pick.f x1000 x1001 x1002 5).bind fun bt132 => (spec_l6Cur_profile.l1 k x1 x6 bt132.1 x1000 bt132.2.1 bt132.2.2 x119000 ([] : List (S45)) x119002 x119003 x119004))
def spec_l6Cur_profile.l1 : Nat → Int → Int → Int → List Int → Int → Int → List (S39) → List (S45) → Int → Int → Int → Option ((List (S39)) × (List (S45)) × Int × Int × Int × Int × Int)
 | 0,_,_,_,_,_,_,_,_,_,_,_ => none
 | k + 1,x1,x6,x9,x1000,x1001,x1002,x119000,x119001,x119002,x119003,x119004 => if x9 > 0 then ((spec_l6Cur_wide.f x1000 x1001 x1002 (wrap64 (x6 + 1))).bind fun bt135 => ((spec_l6Cur_wide.f x1000 bt135.2.1 bt135.2.2 (wrap64 ((wrap64 (x6 - bt135.1)) + 1))).bind fun bt138 => ((spec_l6Cur_wide.f x1000 bt138.2.1 bt138.2.2 (wrap64 (12 * x1))).bind fun bt141 => (if x119001.length < 5864062014805 then (spec_l6Cur_profile.l1 k x1 x6 (wrap64 (x9 - 1)) x1000 bt141.2.1 bt141.2.2 x119000 (x119001 ++ [(⟨bt135.1,wrap64 (bt135.1 + bt138.1),wrap64 (1 + bt141.1)⟩ : S45)]) x119002 x119003 x119004) else (none))))) else ((spec_l6Cur_wide.f x1000 x1001 x1002 (wrap64 (30 * x1))).bind fun bt147 => ((spec_l6Cur_wide.f x1000 bt147.2.1 bt147.2.2 (wrap64 (x6 + 1))).bind fun bt150 => ((spec_l6Cur_pick.f x1000 bt150.2.1 bt150.2.2 2).bind fun bt153 => ((spec_l6Cur_pick.f x1000 bt153.2.1 bt153.2.2 4).bind fun bt156 => (some (x119000,x119001,bt147.1,wrap64 (x6 - (wrap64 (Int.tdiv (wrap64 (bt150.1 * bt153.1)) 2))),bt156.1,bt156.2.1,bt156.2.2))))))
end
def spec_l6Cur_profile.f (k : Nat) (s0_0 : List Int) (s0_1 : Int) (s0_2 : Int) (a1 : Int) : Option ((List (S39)) × (List (S45)) × Int × Int × Int × Int × Int):=(spec_l6Cur_pick.f s0_0 s0_1 s0_2 5).bind fun bt119 => (spec_l6Cur_profile.l0 k a1 0 (wrap64 (1 + bt119.1)) s0_0 bt119.2.1 bt119.2.2 ([] : List (S39)) 0 0 0)
theorem spec_l6Cur_profile.mono_l : ∀ k,(∀ y0 y1 y2 y3 y4 y5 y6 y7 y8 y9,LeO (spec_l6Cur_profile.l0 k y0 y1 y2 y3 y4 y5 y6 y7 y8 y9) (spec_l6Cur_profile.l0 (k + 1) y0 y1 y2 y3 y4 y5 y6 y7 y8 y9))∧(∀ y0 y1 y2 y3 y4 y5 y6 y7 y8 y9 y10,LeO (spec_l6Cur_profile.l1 k y0 y1 y2 y3 y4 y5 y6 y7 y8 y9 y10) (spec_l6Cur_profile.l1 (k + 1) y0 y1 y2 y3 y4 y5 y6 y7 y8 y9 y10))
 | 0 => ⟨fun _ _ _ _ _ _ _ _ _ _ r h => by simp [spec_l6Cur_profile.l0] at h,fun _ _ _ _ _ _ _ _ _ _ _ r h => by simp [spec_l6Cur_profile.l1] at h⟩
 | k + 1 => by
  obtain ⟨ih0,ih1⟩:=spec_l6Cur_profile.mono_l k
  refine ⟨?_,?_⟩
  ·intro y0 y1 y2 y3 y4 y5 y6 y7 y8 y9
   unfold spec_l6Cur_profile.l0
   repeat' first
   | (with_reducible exact ih0 _ _ _ _ _ _ _ _ _ _)
   | (with_reducible exact ih1 _ _ _ _ _ _ _ _ _ _ _)
   | (with_reducible exact LeO.refl _)
   | (with_reducible exact LeO.none _)
   | (with_reducible refine LeO.ite ?_ ?_)
   | (with_reducible refine LeO.bind ?_ (fun _ => ?_))
   | exact ih0 _ _ _ _ _ _ _ _ _ _
   | exact ih1 _ _ _ _ _ _ _ _ _ _ _
   | exact LeO.none _
   | refine LeO.ite ?_ ?_
   | refine LeO.bind ?_ (fun _ => ?_)
  ·intro y0 y1 y2 y3 y4 y5 y6 y7 y8 y9 y10
   unfold spec_l6Cur_profile.l1
   repeat' first
   | (with_reducible exact ih0 _ _ _ _ _ _ _ _ _ _)
   | (with_reducible exact ih1 _ _ _ _ _ _ _ _ _ _ _)
   | (with_reducible exact LeO.refl _)
   | (with_reducible exact LeO.none _)
   | (with_reducible refine LeO.ite ?_ ?_)
   | (with_reducible refine LeO.bind ?_ (fun _ => ?_))
   | exact ih0 _ _ _ _ _ _ _ _ _ _
   | exact ih1 _ _ _ _ _ _ _ _ _ _ _
   | exact LeO.none _
   | refine LeO.ite ?_ ?_
   | refine LeO.bind ?_ (fun _ => ?_)
theorem spec_l6Cur_profile.mono : ∀ a0 a1 a2 a3 k,LeO (spec_l6Cur_profile.f k a0 a1 a2 a3) (spec_l6Cur_profile.f (k + 1) a0 a1 a2 a3):=by
 intro a0 a1 a2 a3 k
 obtain ⟨ih0,ih1⟩:=spec_l6Cur_profile.mono_l k
 unfold spec_l6Cur_profile.f
 repeat' first
   | (with_reducible exact ih0 _ _ _ _ _ _ _ _ _ _)
   | (with_reducible exact ih1 _ _ _ _ _ _ _ _ _ _ _)
   | (with_reducible exact LeO.refl _)
   | (with_reducible exact LeO.none _)
   | (with_reducible refine LeO.ite ?_ ?_)
   | (with_reducible refine LeO.bind ?_ (fun _ => ?_))
   | exact ih0 _ _ _ _ _ _ _ _ _ _
   | exact ih1 _ _ _ _ _ _ _ _ _ _ _
   | exact LeO.none _
   | refine LeO.ite ?_ ?_
   | refine LeO.bind ?_ (fun _ => ?_)
def spec_l6Cur_profile.T14 : Bool × List (List Nat × List Nat):=(true,[([],[]),([0],[0]),([],[]),([],[]),([],[]),([],[]),([5],[5]),([4,6],[4,6]),([7],[7]),([2,3,8],[2,3,8]),([9],[9]),([1,10,7],[1,10]),([0,1,2,3,4,5,6,7,8,9,10,11],[]),([12,11,11,0,1,2,3,4,5,6,7,8,9,10,11],[11,12])])
def spec_l6Cur_profile.B14 : List Nat:=[0,1,0,0,0,0,32,112,240,508,1020,2047,4095,8191]
theorem spec_l6Cur_profile.tab14 : rtab .any (opsOf Try.f30 14) = spec_l6Cur_profile.T14:=by kernel_rfl
theorem spec_l6Cur_profile.bits14 : waitsOk spec_l6Cur_profile.T14.2 spec_l6Cur_profile.B14 = true:=by kernel_rfl
set_option maxHeartbeats 8000000 in
set_option maxRecDepth 100000 in
theorem spec_l6Cur_profile.calls (k : Nat) (g : Nat) (s0_0 : List Int) (s0_1 : Int) (s0_2 : Int) (a1 : Int) (r1 : List (S39)) (r2 : List (S45)) (r3 : Int) (r4 : Int) (r5 : Int) (r6 : Int) (r7 : Int) (w0 w : World) (hI : IsS59 w0 w g s0_0 s0_1 s0_2) (hB : Below w0.heap.size w0 w) (h : spec_l6Cur_profile.f k s0_0 s0_1 s0_2 a1 = some (r1,r2,r3,r4,r5,r6,r7)) :
  Calls Try.prog 30 #[.pointer (some ⟨g,0,none⟩),.int .i64 a1] w fun e w' => ∃ v0_ v1_ : Value,e = .returned (.agg #[v0_,v1_,.int .i64 r3,.int .i64 r4,.int .i64 r5])∧Kd.R k39 39 w' w.heap.size (fun _ => True) v0_ r1∧Kd.R k45 45 w' w.heap.size (fun _ => True) v1_ r2∧IsS59 w0 w' g s0_0 r6 r7∧Below w0.heap.size w0 w'∧KeepBut w w' g none:=by
 have hu26:=Try.underlying26
 have hu39:=Try.underlying39
 have hu45:=Try.underlying45
 have HI0:=Am hI
 have HK:=Am (KeepBut.refl w g none)
 have HL:=Am hB.size
 clear hI
 have HW0:=Am hB.size
 have HB:=Am hB
 clear hB
 have H : ((spec_l6Cur_pick.f s0_0 s0_1 s0_2 5).bind fun bt119 => (spec_l6Cur_profile.l0 k a1 0 (wrap64 (1 + bt119.1)) s0_0 bt119.2.1 bt119.2.2 ([] : List (S39)) 0 0 0)) = some (r1,r2,r3,r4,r5,r6,r7):=h
 clear h
 replace H:=Option.bind_eq_some_iff.mp H
 obtain ⟨⟨t119,t120,t121⟩,A30,H⟩:=H
 replace H : (spec_l6Cur_profile.l0 k a1 0 (wrap64 (1 + t119)) s0_0 t120 t121 ([] : List (S39)) 0 0 0) = some (r1,r2,r3,r4,r5,r6,r7):=H
 have A3:=Am A30
 clear A30
 have H':=Am H
 clear H
 go_enter Try.func30,Try.ntmps30
 go_wp2_with (first|((with_reducible refine gate_dst (N:=4) rfl ?_);refine box_event ?hg (N:=4) ?hd (cs:=#[.slice none 0 0,.slice none 0 0,.int .i64 0,.int .i64 0,.int .i64 0]) (t:=26) ?hr ?_;(case hd => rfl);(case hg => rfl);(case hr => first|(go_simp;done)|(go_simp;rfl));intro gb117 hg w4 hbox hb;have n0_:=Am (IsS59.below (by repeat (first|(with_reducible first|exact HI0.out|apply IsS59.alloc|apply IsS59.drewN|apply IsS59.drew|apply IsS59.set_1|apply IsS59.set_2)|exact HI0.out)) hb);have n1_:=Am (KeepBut.trans (by repeat (first|(with_reducible first|exact HK.out|apply KeepBut.set_|apply keep_drewN|apply keep_drew|apply keep_alloc)|exact HK.out)) (KeepBut.of_below hb g none) (.inl rfl));have n2_:=Am (below_step (by repeat (first|(with_reducible first|exact HB.out|apply bA|apply bN|apply bD|refine bS ?_ (IsS59.ge HI0.out))|exact HB.out)) hb);have n3_:=Am (hbox);have n4_:=Am ((by rw [hg];exact (keep_size (w:=w) (g:=g) (row:=none) (by repeat (first|(with_reducible first|exact HK.out|apply KeepBut.set_|apply keep_drewN|apply keep_drew|apply keep_alloc)|exact HK.out))) : w.heap.size ≤ gb117));have n5_:=Am ((Nat.le_trans HW0.out (by rw [hg];exact (keep_size (w:=w) (g:=g) (row:=none) (by repeat (first|(with_reducible first|exact HK.out|apply KeepBut.set_|apply keep_drewN|apply keep_drew|apply keep_alloc)|exact HK.out))) : w.heap.size ≤ gb117) : w0.heap.size ≤ gb117));have n6_:=Am ((by rw [hg];exact Nat.ne_of_lt (IsS59.lt (show IsS59 w0 _ g s0_0 s0_1 s0_2 from by repeat (first|(with_reducible first|exact HI0.out|apply IsS59.alloc|apply IsS59.drewN|apply IsS59.drew|apply IsS59.set_1|apply IsS59.set_2)|exact HI0.out))) : g ≠ gb117));have n7_:=Am ((by rw [hg];exact Nat.ne_of_gt (IsS59.lt (show IsS59 w0 _ g s0_0 s0_1 s0_2 from by repeat (first|(with_reducible first|exact HI0.out|apply IsS59.alloc|apply IsS59.drewN|apply IsS59.drew|apply IsS59.set_1|apply IsS59.set_2)|exact HI0.out))) : gb117 ≠ g));clear HI0;clear HK;clear HB;have HI0:=n0_;have HK:=n1_;have HB:=n2_;have BK117:=n3_;have GW117:=n4_;have GE117:=n5_;have NB0_117:=n6_;have NB117_0:=n7_;clear n0_ n1_ n2_ n3_ n4_ n5_ n6_ n7_;clear hb hbox hg)|((with_reducible refine gate_dst (N:=5) rfl ?_);refine box_event ?hg (N:=5) ?hd (cs:=#[.slice none 0 0,.slice none 0 0,.int .i64 0,.int .i64 0,.int .i64 0]) (t:=26) ?hr ?_;(case hd => rfl);(case hg => rfl);(case hr => first|(go_simp;done)|(go_simp;rfl));intro gb118 hg w5 hbox hb;have n0_:=Am (IsS59.below (by repeat (first|(with_reducible first|exact HI0.out|apply IsS59.alloc|apply IsS59.drewN|apply IsS59.drew|apply IsS59.set_1|apply IsS59.set_2|refine IsS59.far ?_ NB0_117.out _)|exact HI0.out)) hb);have n1_:=Am (blk_below (g:=gb117) (o:=.cells #[.slice none 0 0,.slice none 0 0,.int .i64 0,.int .i64 0,.int .i64 0] 26 (0,0)) (by (with_reducible repeat (first|refine kN ?_ _|refine kD ?_|refine kA ?_ _));exact BK117.out) hb);have n2_:=Am (KeepBut.trans (by repeat (first|(with_reducible first|exact HK.out|apply KeepBut.set_|apply keep_drewN|apply keep_drew|apply keep_alloc|refine keep_far ?_ GW117.out _)|exact HK.out)) (KeepBut.of_below hb g none) (.inl rfl));have n3_:=Am (below_step (by repeat (first|(with_reducible first|exact HB.out|apply bA|apply bN|apply bD|refine bS ?_ (IsS59.ge HI0.out)|refine bS ?_ GE117.out)|exact HB.out)) hb);have n4_:=Am (hbox);have n5_:=Am ((by rw [hg];exact (keep_size (w:=w) (g:=g) (row:=none) (by repeat (first|(with_reducible first|exact HK.out|apply KeepBut.set_|apply keep_drewN|apply keep_drew|apply keep_alloc|refine keep_far ?_ GW117.out _)|exact HK.out))) : w.heap.size ≤ gb118));have n6_:=Am ((Nat.le_trans HW0.out (by rw [hg];exact (keep_size (w:=w) (g:=g) (row:=none) (by repeat (first|(with_reducible first|exact HK.out|apply KeepBut.set_|apply keep_drewN|apply keep_drew|apply keep_alloc|refine keep_far ?_ GW117.out _)|exact HK.out))) : w.heap.size ≤ gb118) : w0.heap.size ≤ gb118));have n7_:=Am ((by rw [hg];exact Nat.ne_of_lt (blk_lt (g:=gb117) (o:=.cells #[.slice none 0 0,.slice none 0 0,.int .i64 0,.int .i64 0,.int .i64 0] 26 (0,0)) (by (with_reducible repeat (first|refine kN ?_ _|refine kD ?_|refine kA ?_ _));exact BK117.out)) : gb117 ≠ gb118));have n8_:=Am ((by rw [hg];exact Nat.ne_of_gt (blk_lt (g:=gb117) (o:=.cells #[.slice none 0 0,.slice none 0 0,.int .i64 0,.int .i64 0,.int .i64 0] 26 (0,0)) (by (with_reducible repeat (first|refine kN ?_ _|refine kD ?_|refine kA ?_ _));exact BK117.out)) : gb118 ≠ gb117));have n9_:=Am ((by rw [hg];exact Nat.ne_of_lt (IsS59.lt (show IsS59 w0 _ g s0_0 s0_1 s0_2 from by repeat (first|(with_reducible first|exact HI0.out|apply IsS59.alloc|apply IsS59.drewN|apply IsS59.drew|apply IsS59.set_1|apply IsS59.set_2|refine IsS59.far ?_ NB0_117.out _)|exact HI0.out))) : g ≠ gb118));have n10_:=Am ((by rw [hg];exact Nat.ne_of_gt (IsS59.lt (show IsS59 w0 _ g s0_0 s0_1 s0_2 from by repeat (first|(with_reducible first|exact HI0.out|apply IsS59.alloc|apply IsS59.drewN|apply IsS59.drew|apply IsS59.set_1|apply IsS59.set_2|refine IsS59.far ?_ NB0_117.out _)|exact HI0.out))) : gb118 ≠ g));clear HI0;clear BK117;clear HK;clear HB;have HI0:=n0_;have BK117:=n1_;have HK:=n2_;have HB:=n3_;have BK118:=n4_;have GW118:=n5_;have GE118:=n6_;have NB117_118:=n7_;have NB118_117:=n8_;have NB0_118:=n9_;have NB118_0:=n10_;clear n0_ n1_ n2_ n3_ n4_ n5_ n6_ n7_ n8_ n9_ n10_;clear hb hbox hg)|((with_reducible refine gate_callee (f:=31) rfl ?_);refine goesL_ (some 13) rfl rfl Try.func31 (by kernel_rfl) rfl #[.pointer (some ⟨g,0,none⟩),.int .i64 5] rfl (by (try simp only [List.map_toArray,List.map_cons,List.map_nil]);first|done|rfl|(simp only [List.length_drop,List.length_take];rfl)) ?_;(with_reducible refine (spec_l6Cur_pick.calls g s0_0 s0_1 s0_2 5 t119 t120 t121 w0 _ ?side1 ?side2 A3.out).mono ?_);(case side1 => repeat (first|(with_reducible first|exact HI0.out|apply IsS59.alloc|apply IsS59.drewN|apply IsS59.drew|apply IsS59.set_1|apply IsS59.set_2|refine IsS59.far ?_ NB0_117.out _|refine IsS59.far ?_ NB0_118.out _)|exact HI0.out));(case side2 => repeat (first|(with_reducible first|exact HB.out|apply bA|apply bN|apply bD|refine bS ?_ (IsS59.ge HI0.out)|refine bS ?_ GE117.out|refine bS ?_ GE118.out)|exact HB.out));rintro e w6 ⟨rfl,hi,hb,hk⟩;refine ⟨_,rfl,?_⟩;have n0_:=Am (KeepBut.blk hk (g':=gb117) (o:=.cells #[.slice none 0 0,.slice none 0 0,.int .i64 0,.int .i64 0,.int .i64 0] 26 (0,0)) (by (with_reducible repeat (first|refine kN ?_ _|refine kD ?_|refine kA ?_ _));exact BK117.out) NB117_0.out (by simp));have n1_:=Am (KeepBut.blk hk (g':=gb118) (o:=.cells #[.slice none 0 0,.slice none 0 0,.int .i64 0,.int .i64 0,.int .i64 0] 26 (0,0)) (by (with_reducible repeat (first|refine kN ?_ _|refine kD ?_|refine kA ?_ _));exact BK118.out) NB118_0.out (by simp));have n2_:=Am (KeepBut.trans (by repeat (first|(with_reducible first|exact HK.out|apply KeepBut.set_|apply keep_drewN|apply keep_drew|apply keep_alloc|refine keep_far ?_ GW117.out _|refine keep_far ?_ GW118.out _)|exact HK.out)) hk (.inl rfl));have n3_:=Am (hb);have n4_:=Am (hi);clear BK117;clear BK118;clear HK;clear HB;clear HI0;have BK117:=n0_;have BK118:=n1_;have HK:=n2_;have HB:=n3_;have HI0:=n4_;clear n0_ n1_ n2_ n3_ n4_;(try clear hb);(try clear hb2);(try clear hk);(try clear hi)))
 go_loopg [6,7] k (fun kq v6 v7 w' => ∃ (x6_1 : Int) (x7_1 : Int) (x1001_1 : Int) (x1002_1 : Int) (x119000_1 : List (S39)) (u119000 : Value),v6 = .int .i64 x6_1∧v7 = .int .i64 x7_1∧As (spec_l6Cur_profile.l0 kq a1 x6_1 x7_1 s0_0 x1001_1 x1002_1 x119000_1 0 0 0 = some (r1,r2,r3,r4,r5,r6,r7))∧As (kq ≤ k)∧As (Kd.R k39 39 w' w.heap.size (fun _ => True) u119000 x119000_1)∧As (w'.heap[gb117]? = some (.cells #[(.slice none 0 0),(.slice none 0 0),.int .i64 0,.int .i64 0,.int .i64 0] 26 (0,0)))∧As (w'.heap[gb118]? = some (.cells #[u119000,(.slice none 0 0),.int .i64 0,.int .i64 0,.int .i64 0] 26 (0,0)))∧As (IsS59 w0 w' g s0_0 x1001_1 x1002_1)∧As (KeepBut w w' g none)∧As (Below w0.heap.size w0 w'))
 case atStart => exact ⟨(0),(wrap64 (1 + t119)),(t120),(t121),(([] : List (S39))),(.slice none 0 0),(by first|rfl|(simp;done)|(simp [*];done)),(by first|rfl|(simp;done)|(simp [*];done)),H',⟨Nat.le_refl _⟩,⟨by first|exact Kd.R_nil _ _ _ _ _|exact Kd.N_nil _ _ _ _ _|exact Kd.V_nil _ _ _ _ _|exact Kd.Q_nil _ _ _ _ _|exact Kd.S_nil _ _ _ _ _⟩,⟨by (with_reducible repeat (first|refine kN ?_ _|refine kD ?_|refine kA ?_ _));exact BK117.out⟩,⟨by (with_reducible repeat (first|refine kN ?_ _|refine kD ?_|refine kA ?_ _));exact BK118.out⟩,⟨by repeat (first|(with_reducible first|exact HI0.out|apply IsS59.alloc|apply IsS59.drewN|apply IsS59.drew|apply IsS59.set_1|apply IsS59.set_2|refine IsS59.far ?_ NB0_117.out _|refine IsS59.far ?_ NB0_118.out _)|exact HI0.out)⟩,⟨by repeat (first|(with_reducible first|exact HK.out|apply KeepBut.set_|apply keep_drewN|apply keep_drew|apply keep_alloc|refine keep_far ?_ GW117.out _|refine keep_far ?_ GW118.out _)|exact HK.out)⟩,⟨by repeat (first|(with_reducible first|exact HB.out|apply bA|apply bN|apply bD|refine bS ?_ (IsS59.ge HI0.out)|refine bS ?_ GE117.out|refine bS ?_ GE118.out)|exact HB.out)⟩⟩
 case round =>
  clear H'
  try clear p2
  try clear c3
  try clear p6
  obtain ⟨x6_1,x7_1,x1001_1,x1002_1,x119000_1,u119000,rfl,rfl,HA,HK1,HO_119000,BK117,BK118,HI0,HK,HB⟩:=hrel
  cases gk with
  | zero => exact absurd HA.out (by simp [spec_l6Cur_profile.l0])
  | succ k1 =>
   have H:=HA.out
   clear HA
   simp only [spec_l6Cur_profile.l0] at H
   by_cases c7 : x7_1 > 0
   ·rw [if_pos c7] at H
    have c7b0 : decide (0 < x7_1) = true:=decide_eq_true c7
    clear c7
    replace H:=Option.bind_eq_some_iff.mp H
    obtain ⟨⟨t122,t123,t124⟩,A80,H⟩:=H
    replace H : ((spec_l6Cur_steep.f s0_0 t123 t124).bind fun bt125 => (if x119000_1.length < 8796093022208 then (spec_l6Cur_profile.l0 k1 a1 (wrap64 (x6_1 + (wrap64 (1 + t122)))) (wrap64 (x7_1 - 1)) s0_0 bt125.2.1 bt125.2.2 (x119000_1 ++ [(⟨wrap64 (1 + t122),bt125.1⟩ : S39)]) 0 0 0) else (none))) = some (r1,r2,r3,r4,r5,r6,r7):=H
    have A8:=Am A80
    clear A80
    replace H:=Option.bind_eq_some_iff.mp H
    obtain ⟨⟨t125,t126,t127⟩,A90,H⟩:=H
    replace H : (if x119000_1.length < 8796093022208 then (spec_l6Cur_profile.l0 k1 a1 (wrap64 (x6_1 + (wrap64 (1 + t122)))) (wrap64 (x7_1 - 1)) s0_0 t126 t127 (x119000_1 ++ [(⟨wrap64 (1 + t122),t125⟩ : S39)]) 0 0 0) else (none)) = some (r1,r2,r3,r4,r5,r6,r7):=H
    have A9:=Am A90
    clear A90
    by_cases c10 : x119000_1.length < 8796093022208
    ·rw [if_pos c10] at H
     have LMc10:=Am c10
     clear c10
     obtain ⟨y129,hy129⟩ : ∃ y_ : List (S39),y_ = (x119000_1 ++ [(⟨wrap64 (1 + t122),t125⟩ : S39)]):=⟨_,rfl⟩
     replace H : (spec_l6Cur_profile.l0 k1 a1 (wrap64 (x6_1 + (wrap64 (1 + t122)))) (wrap64 (x7_1 - 1)) s0_0 t126 t127 y129 0 0 0) = some (r1,r2,r3,r4,r5,r6,r7):=by first|(rw [hy129];with_reducible exact H)|(have H2_:=(Option.bind_some _ _).symm.trans H;rw [hy129];with_reducible exact H2_)|(have H2_:=(Option.bind_some _ _).symm.trans H;with_reducible exact H2_)|with_reducible exact H|(rw [hy129];exact H)|exact H
     have Ny129:=Am hy129
     clear hy129
     have H':=Am H
     clear H
     go_wp2_with (first|((with_reducible refine gate_callee (f:=32) rfl ?_);refine goesL_ (some 22) rfl rfl Try.func32 (by kernel_rfl) rfl #[.pointer (some ⟨g,0,none⟩),.int .i64 (wrap64 (80 * a1))] rfl (by (try simp only [List.map_toArray,List.map_cons,List.map_nil]);first|done|rfl|(simp only [List.length_drop,List.length_take];rfl)) ?_;(with_reducible refine (spec_l6Cur_wide.calls g s0_0 x1001_1 x1002_1 (wrap64 (80 * a1)) t122 t123 t124 w0 _ ?side1 ?side2 A8.out).mono ?_);(case side1 => repeat (first|(with_reducible first|exact HI0.out|apply IsS59.alloc|apply IsS59.drewN|apply IsS59.drew|apply IsS59.set_1|apply IsS59.set_2|refine IsS59.far ?_ NB0_117.out _|refine IsS59.far ?_ NB0_118.out _)|exact HI0.out));(case side2 => repeat (first|(with_reducible first|exact HB.out|apply bA|apply bN|apply bD|refine bS ?_ (IsS59.ge HI0.out)|refine bS ?_ GE117.out|refine bS ?_ GE118.out)|exact HB.out));rintro e w11 ⟨rfl,hi,hb,hk⟩;refine ⟨_,rfl,?_⟩;have n0_:=Am (Kd.R_mono (Kd.R_keep (IsS59.apart (show IsS59 w0 _ g s0_0 x1001_1 x1002_1 from by repeat (first|(with_reducible first|exact HI0.out|apply IsS59.alloc|apply IsS59.drewN|apply IsS59.drew|apply IsS59.set_1|apply IsS59.set_2|refine IsS59.far ?_ NB0_117.out _|refine IsS59.far ?_ NB0_118.out _)|exact HI0.out)) (by (with_reducible repeat (first|apply Kd.R_alloc|apply Kd.R_drewN|apply Kd.R_drew));exact HO_119000.out) (by decide)) hk (fun _ h => h.2)) (fun _ h => h.1));have n1_:=Am (KeepBut.blk hk (g':=gb117) (o:=.cells #[.slice none 0 0,.slice none 0 0,.int .i64 0,.int .i64 0,.int .i64 0] 26 (0,0)) (by (with_reducible repeat (first|refine kN ?_ _|refine kD ?_|refine kA ?_ _));exact BK117.out) NB117_0.out (by simp));have n2_:=Am (KeepBut.blk hk (g':=gb118) (o:=.cells #[u119000,.slice none 0 0,.int .i64 0,.int .i64 0,.int .i64 0] 26 (0,0)) (by (with_reducible repeat (first|refine kN ?_ _|refine kD ?_|refine kA ?_ _));exact BK118.out) NB118_0.out (by simp));have n3_:=Am (KeepBut.trans (by repeat (first|(with_reducible first|exact HK.out|apply KeepBut.set_|apply keep_drewN|apply keep_drew|apply keep_alloc|refine keep_far ?_ GW117.out _|refine keep_far ?_ GW118.out _)|exact HK.out)) hk (.inl rfl));have n4_:=Am (hb);have n5_:=Am (hi);clear HO_119000;clear BK117;clear BK118;clear HK;clear HB;clear HI0;have HO_119000:=n0_;have BK117:=n1_;have BK118:=n2_;have HK:=n3_;have HB:=n4_;have HI0:=n5_;clear n0_ n1_ n2_ n3_ n4_ n5_;(try clear hb);(try clear hb2);(try clear hk);(try clear hi))|((with_reducible refine gate_callee (f:=61) rfl ?_);refine goesL_ (some 25) rfl rfl Try.func61 (by kernel_rfl) rfl #[.pointer (some ⟨g,0,none⟩)] rfl (by (try simp only [List.map_toArray,List.map_cons,List.map_nil]);first|done|rfl|(simp only [List.length_drop,List.length_take];rfl)) ?_;(with_reducible refine (spec_l6Cur_steep.calls g s0_0 t123 t124 t125 t126 t127 w0 _ ?side1 ?side2 A9.out).mono ?_);(case side1 => repeat (first|(with_reducible first|exact HI0.out|apply IsS59.alloc|apply IsS59.drewN|apply IsS59.drew|apply IsS59.set_1|apply IsS59.set_2|refine IsS59.far ?_ NB0_117.out _|refine IsS59.far ?_ NB0_118.out _)|exact HI0.out));(case side2 => repeat (first|(with_reducible first|exact HB.out|apply bA|apply bN|apply bD|refine bS ?_ (IsS59.ge HI0.out)|refine bS ?_ GE117.out|refine bS ?_ GE118.out)|exact HB.out));rintro e w12 ⟨rfl,hi,hb,hk⟩;refine ⟨_,rfl,?_⟩;have n0_:=Am (Kd.R_mono (Kd.R_keep (IsS59.apart (show IsS59 w0 _ g s0_0 t123 t124 from by repeat (first|(with_reducible first|exact HI0.out|apply IsS59.alloc|apply IsS59.drewN|apply IsS59.drew|apply IsS59.set_1|apply IsS59.set_2|refine IsS59.far ?_ NB0_117.out _|refine IsS59.far ?_ NB0_118.out _)|exact HI0.out)) (by (with_reducible repeat (first|apply Kd.R_alloc|apply Kd.R_drewN|apply Kd.R_drew));exact HO_119000.out) (by decide)) hk (fun _ h => h.2)) (fun _ h => h.1));have n1_:=Am (KeepBut.blk hk (g':=gb117) (o:=.cells #[.slice none 0 0,.slice none 0 0,.int .i64 0,.int .i64 0,.int .i64 0] 26 (0,0)) (by (with_reducible repeat (first|refine kN ?_ _|refine kD ?_|refine kA ?_ _));exact BK117.out) NB117_0.out (by simp));have n2_:=Am (KeepBut.blk hk (g':=gb118) (o:=.cells #[u119000,.slice none 0 0,.int .i64 0,.int .i64 0,.int .i64 0] 26 (0,0)) (by (with_reducible repeat (first|refine kN ?_ _|refine kD ?_|refine kA ?_ _));exact BK118.out) NB118_0.out (by simp));have n3_:=Am (KeepBut.trans (by repeat (first|(with_reducible first|exact HK.out|apply KeepBut.set_|apply keep_drewN|apply keep_drew|apply keep_alloc|refine keep_far ?_ GW117.out _|refine keep_far ?_ GW118.out _)|exact HK.out)) hk (.inl rfl));have n4_:=Am (hb);have n5_:=Am (hi);clear HO_119000;clear BK117;clear BK118;clear HK;clear HB;clear HI0;have HO_119000:=n0_;have BK117:=n1_;have BK118:=n2_;have HK:=n3_;have HB:=n4_;have HI0:=n5_;clear n0_ n1_ n2_ n3_ n4_ n5_;(try clear hb);(try clear hb2);(try clear hk);(try clear hi))|((with_reducible refine gate_dst (N:=8) rfl ?_);refine box_event ?hg (N:=8) ?hd (cs:=#[.int .i64 0,.int .i64 0]) (t:=39) ?hr ?_;(case hd => rfl);(case hg => rfl);(case hr => first|(go_simp;done)|(go_simp;rfl));intro gb128 hg w13 hbox hb;have n0_:=Am (Kd.R_below (Kd.R_elderB (by (with_reducible repeat (first|apply Kd.R_alloc|apply Kd.R_drewN|apply Kd.R_drew));exact HO_119000.out) gb128 (Nat.le_of_eq hg.symm)) hb);have n1_:=Am (blk_below (g:=gb117) (o:=.cells #[.slice none 0 0,.slice none 0 0,.int .i64 0,.int .i64 0,.int .i64 0] 26 (0,0)) (by (with_reducible repeat (first|refine kN ?_ _|refine kD ?_|refine kA ?_ _));exact BK117.out) hb);have n2_:=Am (blk_below (g:=gb118) (o:=.cells #[u119000,.slice none 0 0,.int .i64 0,.int .i64 0,.int .i64 0] 26 (0,0)) (by (with_reducible repeat (first|refine kN ?_ _|refine kD ?_|refine kA ?_ _));exact BK118.out) hb);have n3_:=Am (IsS59.below (by repeat (first|(with_reducible first|exact HI0.out|apply IsS59.alloc|apply IsS59.drewN|apply IsS59.drew|apply IsS59.set_1|apply IsS59.set_2|refine IsS59.far ?_ NB0_117.out _|refine IsS59.far ?_ NB0_118.out _)|exact HI0.out)) hb);have n4_:=Am (KeepBut.trans (by repeat (first|(with_reducible first|exact HK.out|apply KeepBut.set_|apply keep_drewN|apply keep_drew|apply keep_alloc|refine keep_far ?_ GW117.out _|refine keep_far ?_ GW118.out _)|exact HK.out)) (KeepBut.of_below hb g none) (.inl rfl));have n5_:=Am (below_step (by repeat (first|(with_reducible first|exact HB.out|apply bA|apply bN|apply bD|refine bS ?_ (IsS59.ge HI0.out)|refine bS ?_ GE117.out|refine bS ?_ GE118.out)|exact HB.out)) hb);have n6_:=Am (hbox);have n7_:=Am ((by rw [hg];exact (keep_size (w:=w) (g:=g) (row:=none) (by repeat (first|(with_reducible first|exact HK.out|apply KeepBut.set_|apply keep_drewN|apply keep_drew|apply keep_alloc|refine keep_far ?_ GW117.out _|refine keep_far ?_ GW118.out _)|exact HK.out))) : w.heap.size ≤ gb128));have n8_:=Am ((Nat.le_trans HW0.out (by rw [hg];exact (keep_size (w:=w) (g:=g) (row:=none) (by repeat (first|(with_reducible first|exact HK.out|apply KeepBut.set_|apply keep_drewN|apply keep_drew|apply keep_alloc|refine keep_far ?_ GW117.out _|refine keep_far ?_ GW118.out _)|exact HK.out))) : w.heap.size ≤ gb128) : w0.heap.size ≤ gb128));have n9_:=Am ((by rw [hg];exact Nat.ne_of_lt (blk_lt (g:=gb117) (o:=.cells #[.slice none 0 0,.slice none 0 0,.int .i64 0,.int .i64 0,.int .i64 0] 26 (0,0)) (by (with_reducible repeat (first|refine kN ?_ _|refine kD ?_|refine kA ?_ _));exact BK117.out)) : gb117 ≠ gb128));have n10_:=Am ((by rw [hg];exact Nat.ne_of_gt (blk_lt (g:=gb117) (o:=.cells #[.slice none 0 0,.slice none 0 0,.int .i64 0,.int .i64 0,.int .i64 0] 26 (0,0)) (by (with_reducible repeat (first|refine kN ?_ _|refine kD ?_|refine kA ?_ _));exact BK117.out)) : gb128 ≠ gb117));have n11_:=Am ((by rw [hg];exact Nat.ne_of_lt (blk_lt (g:=gb118) (o:=.cells #[u119000,.slice none 0 0,.int .i64 0,.int .i64 0,.int .i64 0] 26 (0,0)) (by (with_reducible repeat (first|refine kN ?_ _|refine kD ?_|refine kA ?_ _));exact BK118.out)) : gb118 ≠ gb128));have n12_:=Am ((by rw [hg];exact Nat.ne_of_gt (blk_lt (g:=gb118) (o:=.cells #[u119000,.slice none 0 0,.int .i64 0,.int .i64 0,.int .i64 0] 26 (0,0)) (by (with_reducible repeat (first|refine kN ?_ _|refine kD ?_|refine kA ?_ _));exact BK118.out)) : gb128 ≠ gb118));have n13_:=Am ((by rw [hg];exact Nat.ne_of_lt (IsS59.lt (show IsS59 w0 _ g s0_0 t126 t127 from by repeat (first|(with_reducible first|exact HI0.out|apply IsS59.alloc|apply IsS59.drewN|apply IsS59.drew|apply IsS59.set_1|apply IsS59.set_2|refine IsS59.far ?_ NB0_117.out _|refine IsS59.far ?_ NB0_118.out _)|exact HI0.out))) : g ≠ gb128));have n14_:=Am ((by rw [hg];exact Nat.ne_of_gt (IsS59.lt (show IsS59 w0 _ g s0_0 t126 t127 from by repeat (first|(with_reducible first|exact HI0.out|apply IsS59.alloc|apply IsS59.drewN|apply IsS59.drew|apply IsS59.set_1|apply IsS59.set_2|refine IsS59.far ?_ NB0_117.out _|refine IsS59.far ?_ NB0_118.out _)|exact HI0.out))) : gb128 ≠ g));clear HO_119000;clear BK117;clear BK118;clear HI0;clear HK;clear HB;have HO_119000:=n0_;have BK117:=n1_;have BK118:=n2_;have HI0:=n3_;have HK:=n4_;have HB:=n5_;have BK128:=n6_;have GW128:=n7_;have GE128:=n8_;have NB117_128:=n9_;have NB128_117:=n10_;have NB118_128:=n11_;have NB128_118:=n12_;have NB0_128:=n13_;have NB128_0:=n14_;clear n0_ n1_ n2_ n3_ n4_ n5_ n6_ n7_ n8_ n9_ n10_ n11_ n12_ n13_ n14_;clear hb hbox hg;have hnb14:=NB128_117.out;have hnc14:=NB117_128.out;have hnb15:=NB128_118.out;have hnc15:=NB118_128.out;have hnb16:=NB128_0.out;have hnc16:=NB0_128.out;have hcz17_0 : w13.cell? ⟨gb128,0,none⟩ = some (.int .i64 0):=(kC BK128.out 0).trans rfl;have hcz17_1 : w13.cell? ⟨gb128,1,none⟩ = some (.int .i64 0):=(kC BK128.out 1).trans rfl;have hfz17_0:=kF BK128.out 0;have hfz17_1:=kF BK128.out 1;have hnb18:=NB118_117.out;have hnc18:=NB117_118.out;have hnb19:=NB118_0.out;have hnc19:=NB0_118.out;have hcz20_0 : w13.cell? ⟨gb118,0,none⟩ = some (u119000):=(kC BK118.out 0).trans rfl;have hcz20_1 : w13.cell? ⟨gb118,1,none⟩ = some (.slice none 0 0):=(kC BK118.out 1).trans rfl;have hcz20_2 : w13.cell? ⟨gb118,2,none⟩ = some (.int .i64 0):=(kC BK118.out 2).trans rfl;have hcz20_3 : w13.cell? ⟨gb118,3,none⟩ = some (.int .i64 0):=(kC BK118.out 3).trans rfl;have hcz20_4 : w13.cell? ⟨gb118,4,none⟩ = some (.int .i64 0):=(kC BK118.out 4).trans rfl;have hfz20_0:=kF BK118.out 0;have hfz20_1:=kF BK118.out 1;have hfz20_2:=kF BK118.out 2;have hfz20_3:=kF BK118.out 3;have hfz20_4:=kF BK118.out 4)|((with_reducible refine gate_builtin (b:=.append) (xs:=#[.tmp 28,.tmp 30]) rfl ?_);at_builtin;refine Kd.R_append k39 w.heap.size rfl (.tmp 28) (.tmp 30) 23 39 (.agg #[(.int .i64 0),(.int .i64 0)]) 16 rfl Try.underlying23 info39 rfl (by decide) (by omega) u119000 x119000_1 (⟨wrap64 (1 + t122),t125⟩ : S39) [.int .i64 (wrap64 (1 + t122)),.int .i64 t125] (fun k_ => k_ ≠ gb128) (fun _ => False) rfl (by first|(go_simp;done)|(go_simp;rfl)) ?aP (fun _ hk => hk.elim) ?aF ?aO (Below.refl _ _) ?aS ?aL ?_;(case aP => exact k39_mkM _ _ _ (⟨wrap64 (1 + t122),t125⟩ : S39));(case aF => exact (fun k_ hk => Kd.freshB (g:=gb128) (o:=.cells #[.int .i64 (wrap64 (1 + t122)),.int .i64 t125] 39 (0,0)) (by (with_reducible repeat (first|refine kN ?_ _|refine kD ?_|refine kA ?_ _));refine blk_put (cs:=#[.int .i64 (wrap64 (1 + t122)),.int .i64 0]) ?_ 1 _ rfl;(with_reducible repeat (first|refine kN ?_ _|refine kD ?_|refine kA ?_ _));refine blk_put (cs:=#[.int .i64 0,.int .i64 0]) ?_ 0 _ rfl;(with_reducible repeat (first|refine kN ?_ _|refine kD ?_|refine kA ?_ _));exact BK128.out) k_ hk));(case aO => exact (by (with_reducible repeat (first|apply Kd.R_alloc|apply Kd.R_drewN|apply Kd.R_drew));exact Kd.R_mono (Kd.R_far (p:=⟨gb128,1,none⟩) (Kd.R_far (p:=⟨gb128,0,none⟩) (Kd.R_mono HO_119000.out (fun k_ hk => (⟨hk,hk.2⟩ : _∧k_ ≠ gb128))) (fun _ hk => hk.2) (.int .i64 (wrap64 (1 + t122)))) (fun _ hk => hk.2) (.int .i64 t125)) (fun _ hk => hk.1.2)));(case aS => exact (keep_size (w:=w) (g:=g) (row:=none) (by repeat (first|(with_reducible first|exact HK.out|apply KeepBut.set_|apply keep_drewN|apply keep_drew|apply keep_alloc|refine keep_far ?_ GW117.out _|refine keep_far ?_ GW118.out _|refine keep_far ?_ GW128.out _)|exact HK.out))));(case aL => have:=LMc10.out;omega);intro v130 w21 ho hb hg hat;rw [← Ny129.out] at ho;have n0_:=Am (blk_grown (g:=gb117) (o:=.cells #[.slice none 0 0,.slice none 0 0,.int .i64 0,.int .i64 0,.int .i64 0] 26 (0,0)) (by (with_reducible repeat (first|refine kN ?_ _|refine kD ?_|refine kA ?_ _));refine blk_far ?_ NB117_128.out _;(with_reducible repeat (first|refine kN ?_ _|refine kD ?_|refine kA ?_ _));refine blk_far ?_ NB117_128.out _;(with_reducible repeat (first|refine kN ?_ _|refine kD ?_|refine kA ?_ _));exact BK117.out) hg (Kd.R_ne HO_119000.out BK117.out (by decide)));have n1_:=Am (blk_grown (g:=gb118) (o:=.cells #[u119000,.slice none 0 0,.int .i64 0,.int .i64 0,.int .i64 0] 26 (0,0)) (by (with_reducible repeat (first|refine kN ?_ _|refine kD ?_|refine kA ?_ _));refine blk_far ?_ NB118_128.out _;(with_reducible repeat (first|refine kN ?_ _|refine kD ?_|refine kA ?_ _));refine blk_far ?_ NB118_128.out _;(with_reducible repeat (first|refine kN ?_ _|refine kD ?_|refine kA ?_ _));exact BK118.out) hg (Kd.R_ne HO_119000.out BK118.out (by decide)));have n2_:=Am (IsS59.grown (show IsS59 w0 _ g s0_0 t126 t127 from by repeat (first|(with_reducible first|exact HI0.out|apply IsS59.alloc|apply IsS59.drewN|apply IsS59.drew|apply IsS59.set_1|apply IsS59.set_2|refine IsS59.far ?_ NB0_117.out _|refine IsS59.far ?_ NB0_118.out _|refine IsS59.far ?_ NB0_128.out _)|exact HI0.out)) hg (IsS59.own_ne HI0.out HO_119000.out (by decide)));have n3_:=Am (blk_grown (g:=gb128) (o:=.cells #[.int .i64 (wrap64 (1 + t122)),.int .i64 t125] 39 (0,0)) (by (with_reducible repeat (first|refine kN ?_ _|refine kD ?_|refine kA ?_ _));refine blk_put (cs:=#[.int .i64 (wrap64 (1 + t122)),.int .i64 0]) ?_ 1 _ rfl;(with_reducible repeat (first|refine kN ?_ _|refine kD ?_|refine kA ?_ _));refine blk_put (cs:=#[.int .i64 0,.int .i64 0]) ?_ 0 _ rfl;(with_reducible repeat (first|refine kN ?_ _|refine kD ?_|refine kA ?_ _));exact BK128.out) hg (Kd.R_away HO_119000.out (fun _ hk => hk.2)));have n4_:=Am (below_weaken (by repeat (first|(with_reducible first|exact HB.out|apply bA|apply bN|apply bD|refine bS ?_ (IsS59.ge HI0.out)|refine bS ?_ GE117.out|refine bS ?_ GE118.out|refine bS ?_ GE128.out)|exact HB.out)) HL.out hb);have n5_:=Am (KeepBut.trans (by repeat (first|(with_reducible first|exact HK.out|apply KeepBut.set_|apply keep_drewN|apply keep_drew|apply keep_alloc|refine keep_far ?_ GW117.out _|refine keep_far ?_ GW118.out _|refine keep_far ?_ GW128.out _)|exact HK.out)) (KeepBut.of_grown hg g) (Kd.R_base2 HO_119000.out));have n6_:=Am (ho);clear BK117;clear BK118;clear HI0;clear BK128;clear HB;clear HK;clear HO_119000;have BK117:=n0_;have BK118:=n1_;have HI0:=n2_;have BK128:=n3_;have HB:=n4_;have HK:=n5_;have HO131:=n6_;clear n0_ n1_ n2_ n3_ n4_ n5_ n6_;clear ho hb hg hat;obtain ⟨Ao22,co22,eo22⟩:=Kd.R_slice HO131.out;subst eo22;have hcz23_0 : w21.cell? ⟨gb118,0,none⟩ = some (u119000):=(kC BK118.out 0).trans rfl;have hcz23_1 : w21.cell? ⟨gb118,1,none⟩ = some (.slice none 0 0):=(kC BK118.out 1).trans rfl;have hcz23_2 : w21.cell? ⟨gb118,2,none⟩ = some (.int .i64 0):=(kC BK118.out 2).trans rfl;have hcz23_3 : w21.cell? ⟨gb118,3,none⟩ = some (.int .i64 0):=(kC BK118.out 3).trans rfl;have hcz23_4 : w21.cell? ⟨gb118,4,none⟩ = some (.int .i64 0):=(kC BK118.out 4).trans rfl;have hfz23_0:=kF BK118.out 0;have hfz23_1:=kF BK118.out 1;have hfz23_2:=kF BK118.out 2;have hfz23_3:=kF BK118.out 3;have hfz23_4:=kF BK118.out 4;have hcz24_0 : w21.cell? ⟨gb128,0,none⟩ = some (.int .i64 (wrap64 (1 + t122))):=(kC BK128.out 0).trans rfl;have hcz24_1 : w21.cell? ⟨gb128,1,none⟩ = some (.int .i64 t125):=(kC BK128.out 1).trans rfl;have hfz24_0:=kF BK128.out 0;have hfz24_1:=kF BK128.out 1))
     go_roundg k1
     case measure => have:=HK1.out;omega
     case rel => exact ⟨(wrap64 (x6_1 + (wrap64 (1 + t122)))),(wrap64 (x7_1 - 1)),(t126),(t127),(y129),(.slice Ao22 y129.length co22),(by first|rfl|(simp;done)|(simp [*];done)),(by first|rfl|(simp;done)|(simp [*];done)),H',⟨by have:=HK1.out;omega⟩,⟨by (with_reducible repeat (first|apply Kd.R_alloc|apply Kd.R_drewN|apply Kd.R_drew));exact Kd.R_mono (Kd.R_far (p:=⟨gb118,0,none⟩) (Kd.R_types HO131.out BK118.out (by decide)) (fun _ hk => hk.2) (.slice Ao22 y129.length co22)) (fun _ hk => trivial)⟩,⟨by (with_reducible repeat (first|refine kN ?_ _|refine kD ?_|refine kA ?_ _));refine blk_far ?_ NB117_118.out _;(with_reducible repeat (first|refine kN ?_ _|refine kD ?_|refine kA ?_ _));exact BK117.out⟩,⟨by (with_reducible repeat (first|refine kN ?_ _|refine kD ?_|refine kA ?_ _));refine blk_put (cs:=#[u119000,.slice none 0 0,.int .i64 0,.int .i64 0,.int .i64 0]) ?_ 0 _ rfl;(with_reducible repeat (first|refine kN ?_ _|refine kD ?_|refine kA ?_ _));exact BK118.out⟩,⟨by repeat (first|(with_reducible first|exact HI0.out|apply IsS59.alloc|apply IsS59.drewN|apply IsS59.drew|apply IsS59.set_1|apply IsS59.set_2|refine IsS59.far ?_ NB0_117.out _|refine IsS59.far ?_ NB0_118.out _|refine IsS59.far ?_ NB0_128.out _)|exact HI0.out)⟩,⟨by repeat (first|(with_reducible first|exact HK.out|apply KeepBut.set_|apply keep_drewN|apply keep_drew|apply keep_alloc|refine keep_far ?_ GW117.out _|refine keep_far ?_ GW118.out _|refine keep_far ?_ GW128.out _)|exact HK.out)⟩,⟨by repeat (first|(with_reducible first|exact HB.out|apply bA|apply bN|apply bD|refine bS ?_ (IsS59.ge HI0.out)|refine bS ?_ GE117.out|refine bS ?_ GE118.out|refine bS ?_ GE128.out)|exact HB.out)⟩⟩
    ·rw [if_neg c10] at H
     exact absurd H (by simp)
   ·rw [if_neg c7] at H
    have c7b0 : decide (0 < x7_1) = false:=decide_eq_false c7
    clear c7
    replace H:=Option.bind_eq_some_iff.mp H
    obtain ⟨⟨t132,t133,t134⟩,A250,H⟩:=H
    replace H : (spec_l6Cur_profile.l1 k1 a1 x6_1 t132 s0_0 t133 t134 x119000_1 ([] : List (S45)) 0 0 0) = some (r1,r2,r3,r4,r5,r6,r7):=H
    have A25:=Am A250
    clear A250
    have H':=Am H
    clear H
    go_wp2_with (first|((with_reducible refine gate_callee (f:=31) rfl ?_);refine goesL_ (some 38) rfl rfl Try.func31 (by kernel_rfl) rfl #[.pointer (some ⟨g,0,none⟩),.int .i64 5] rfl (by (try simp only [List.map_toArray,List.map_cons,List.map_nil]);first|done|rfl|(simp only [List.length_drop,List.length_take];rfl)) ?_;(with_reducible refine (spec_l6Cur_pick.calls g s0_0 x1001_1 x1002_1 5 t132 t133 t134 w0 _ ?side1 ?side2 A25.out).mono ?_);(case side1 => repeat (first|(with_reducible first|exact HI0.out|apply IsS59.alloc|apply IsS59.drewN|apply IsS59.drew|apply IsS59.set_1|apply IsS59.set_2|refine IsS59.far ?_ NB0_117.out _|refine IsS59.far ?_ NB0_118.out _)|exact HI0.out));(case side2 => repeat (first|(with_reducible first|exact HB.out|apply bA|apply bN|apply bD|refine bS ?_ (IsS59.ge HI0.out)|refine bS ?_ GE117.out|refine bS ?_ GE118.out)|exact HB.out));rintro e w26 ⟨rfl,hi,hb,hk⟩;refine ⟨_,rfl,?_⟩;have n0_:=Am (Kd.R_mono (Kd.R_keep (IsS59.apart (show IsS59 w0 _ g s0_0 x1001_1 x1002_1 from by repeat (first|(with_reducible first|exact HI0.out|apply IsS59.alloc|apply IsS59.drewN|apply IsS59.drew|apply IsS59.set_1|apply IsS59.set_2|refine IsS59.far ?_ NB0_117.out _|refine IsS59.far ?_ NB0_118.out _)|exact HI0.out)) (by (with_reducible repeat (first|apply Kd.R_alloc|apply Kd.R_drewN|apply Kd.R_drew));exact HO_119000.out) (by decide)) hk (fun _ h => h.2)) (fun _ h => h.1));have n1_:=Am (KeepBut.blk hk (g':=gb117) (o:=.cells #[.slice none 0 0,.slice none 0 0,.int .i64 0,.int .i64 0,.int .i64 0] 26 (0,0)) (by (with_reducible repeat (first|refine kN ?_ _|refine kD ?_|refine kA ?_ _));exact BK117.out) NB117_0.out (by simp));have n2_:=Am (KeepBut.blk hk (g':=gb118) (o:=.cells #[u119000,.slice none 0 0,.int .i64 0,.int .i64 0,.int .i64 0] 26 (0,0)) (by (with_reducible repeat (first|refine kN ?_ _|refine kD ?_|refine kA ?_ _));exact BK118.out) NB118_0.out (by simp));have n3_:=Am (KeepBut.trans (by repeat (first|(with_reducible first|exact HK.out|apply KeepBut.set_|apply keep_drewN|apply keep_drew|apply keep_alloc|refine keep_far ?_ GW117.out _|refine keep_far ?_ GW118.out _)|exact HK.out)) hk (.inl rfl));have n4_:=Am (hb);have n5_:=Am (hi);clear HO_119000;clear BK117;clear BK118;clear HK;clear HB;clear HI0;have HO_119000:=n0_;have BK117:=n1_;have BK118:=n2_;have HK:=n3_;have HB:=n4_;have HI0:=n5_;clear n0_ n1_ n2_ n3_ n4_ n5_;(try clear hb);(try clear hb2);(try clear hk);(try clear hi)))
    go_loopg [9] k1 (fun kq v9 w' => ∃ (x9_2 : Int) (x1001_2 : Int) (x1002_2 : Int) (x119001_2 : List (S45)) (u119001 : Value),v9 = .int .i64 x9_2∧As (spec_l6Cur_profile.l1 kq a1 x6_1 x9_2 s0_0 x1001_2 x1002_2 x119000_1 x119001_2 0 0 0 = some (r1,r2,r3,r4,r5,r6,r7))∧As (kq ≤ k1)∧As (Kd.R k39 39 w' w.heap.size (fun _ => True) u119000 x119000_1)∧As (Kd.R k45 45 w' w.heap.size (fun _ => True) u119001 x119001_2)∧As (w'.heap[gb117]? = some (.cells #[(.slice none 0 0),(.slice none 0 0),.int .i64 0,.int .i64 0,.int .i64 0] 26 (0,0)))∧As (w'.heap[gb118]? = some (.cells #[u119000,u119001,.int .i64 0,.int .i64 0,.int .i64 0] 26 (0,0)))∧As (IsS59 w0 w' g s0_0 x1001_2 x1002_2)∧As (KeepBut w w' g none)∧As (Below w0.heap.size w0 w'))
    case atStart => exact ⟨(t132),(t133),(t134),(([] : List (S45))),(.slice none 0 0),(by first|rfl|(simp;done)|(simp [*];done)),H',⟨Nat.le_refl _⟩,⟨by (with_reducible repeat (first|apply Kd.R_alloc|apply Kd.R_drewN|apply Kd.R_drew));exact HO_119000.out⟩,⟨by first|exact Kd.R_nil _ _ _ _ _|exact Kd.N_nil _ _ _ _ _|exact Kd.V_nil _ _ _ _ _|exact Kd.Q_nil _ _ _ _ _|exact Kd.S_nil _ _ _ _ _⟩,⟨by (with_reducible repeat (first|refine kN ?_ _|refine kD ?_|refine kA ?_ _));exact BK117.out⟩,⟨by (with_reducible repeat (first|refine kN ?_ _|refine kD ?_|refine kA ?_ _));exact BK118.out⟩,⟨by repeat (first|(with_reducible first|exact HI0.out|apply IsS59.alloc|apply IsS59.drewN|apply IsS59.drew|apply IsS59.set_1|apply IsS59.set_2|refine IsS59.far ?_ NB0_117.out _|refine IsS59.far ?_ NB0_118.out _)|exact HI0.out)⟩,⟨by repeat (first|(with_reducible first|exact HK.out|apply KeepBut.set_|apply keep_drewN|apply keep_drew|apply keep_alloc|refine keep_far ?_ GW117.out _|refine keep_far ?_ GW118.out _)|exact HK.out)⟩,⟨by repeat (first|(with_reducible first|exact HB.out|apply bA|apply bN|apply bD|refine bS ?_ (IsS59.ge HI0.out)|refine bS ?_ GE117.out|refine bS ?_ GE118.out)|exact HB.out)⟩⟩
    case round =>
     clear H'
     try clear c1
     try clear p2
     try clear c3
     try clear c6
     try clear p6
     try clear c7
     try clear c7b0
     try clear c10
     try clear c14
     try clear c15
     try clear c16
     try clear c18
     try clear c19
     try clear hcz17_0
     try clear hcz17_1
     try clear hcz20_0
     try clear hcz20_1
     try clear hcz20_2
     try clear hcz20_3
     try clear hcz20_4
     try clear hcz23_0
     try clear hcz23_1
     try clear hcz23_2
     try clear hcz23_3
     try clear hcz23_4
     try clear hcz24_0
     try clear hcz24_1
     try clear hfz17_0
     try clear hfz17_1
     try clear hfz20_0
     try clear hfz20_1
     try clear hfz20_2
     try clear hfz20_3
     try clear hfz20_4
     try clear hfz23_0
     try clear hfz23_1
     try clear hfz23_2
     try clear hfz23_3
     try clear hfz23_4
     try clear hfz24_0
     try clear hfz24_1
     try clear p2
     try clear p6
     obtain ⟨x9_2,x1001_2,x1002_2,x119001_2,u119001,rfl,HA,HK2,HO_119000,HO_119001,BK117,BK118,HI0,HK,HB⟩:=hrel
     cases gk with
     | zero => exact absurd HA.out (by simp [spec_l6Cur_profile.l1])
     | succ k2 =>
      have H:=HA.out
      clear HA
      simp only [spec_l6Cur_profile.l1] at H
      by_cases c27 : x9_2 > 0
      ·rw [if_pos c27] at H
       have c27b0 : decide (0 < x9_2) = true:=decide_eq_true c27
       clear c27
       replace H:=Option.bind_eq_some_iff.mp H
       obtain ⟨⟨t135,t136,t137⟩,A280,H⟩:=H
       replace H : ((spec_l6Cur_wide.f s0_0 t136 t137 (wrap64 ((wrap64 (x6_1 - t135)) + 1))).bind fun bt138 => ((spec_l6Cur_wide.f s0_0 bt138.2.1 bt138.2.2 (wrap64 (12 * a1))).bind fun bt141 => (if x119001_2.length < 5864062014805 then (spec_l6Cur_profile.l1 k2 a1 x6_1 (wrap64 (x9_2 - 1)) s0_0 bt141.2.1 bt141.2.2 x119000_1 (x119001_2 ++ [(⟨t135,wrap64 (t135 + bt138.1),wrap64 (1 + bt141.1)⟩ : S45)]) 0 0 0) else (none)))) = some (r1,r2,r3,r4,r5,r6,r7):=H
       have A28:=Am A280
       clear A280
       replace H:=Option.bind_eq_some_iff.mp H
       obtain ⟨⟨t138,t139,t140⟩,A290,H⟩:=H
       replace H : ((spec_l6Cur_wide.f s0_0 t139 t140 (wrap64 (12 * a1))).bind fun bt141 => (if x119001_2.length < 5864062014805 then (spec_l6Cur_profile.l1 k2 a1 x6_1 (wrap64 (x9_2 - 1)) s0_0 bt141.2.1 bt141.2.2 x119000_1 (x119001_2 ++ [(⟨t135,wrap64 (t135 + t138),wrap64 (1 + bt141.1)⟩ : S45)]) 0 0 0) else (none))) = some (r1,r2,r3,r4,r5,r6,r7):=H
       have A29:=Am A290
       clear A290
       replace H:=Option.bind_eq_some_iff.mp H
       obtain ⟨⟨t141,t142,t143⟩,A300,H⟩:=H
       replace H : (if x119001_2.length < 5864062014805 then (spec_l6Cur_profile.l1 k2 a1 x6_1 (wrap64 (x9_2 - 1)) s0_0 t142 t143 x119000_1 (x119001_2 ++ [(⟨t135,wrap64 (t135 + t138),wrap64 (1 + t141)⟩ : S45)]) 0 0 0) else (none)) = some (r1,r2,r3,r4,r5,r6,r7):=H
       have A30:=Am A300
       clear A300
       by_cases c31 : x119001_2.length < 5864062014805
       ·rw [if_pos c31] at H
        have LMc31:=Am c31
        clear c31
        obtain ⟨y144,hy144⟩ : ∃ y_ : List (S45),y_ = (x119001_2 ++ [(⟨t135,wrap64 (t135 + t138),wrap64 (1 + t141)⟩ : S45)]):=⟨_,rfl⟩
        replace H : (spec_l6Cur_profile.l1 k2 a1 x6_1 (wrap64 (x9_2 - 1)) s0_0 t142 t143 x119000_1 y144 0 0 0) = some (r1,r2,r3,r4,r5,r6,r7):=by first|(rw [hy144];with_reducible exact H)|(have H2_:=(Option.bind_some _ _).symm.trans H;rw [hy144];with_reducible exact H2_)|(have H2_:=(Option.bind_some _ _).symm.trans H;with_reducible exact H2_)|with_reducible exact H|(rw [hy144];exact H)|exact H
        have Ny144:=Am hy144
        clear hy144
        have H':=Am H
        clear H
        try go_wp2_with (first|((with_reducible refine gate_callee (f:=32) rfl ?_);refine goesL_ (some 46) rfl rfl Try.func32 (by kernel_rfl) rfl #[.pointer (some ⟨g,0,none⟩),.int .i64 (wrap64 (x6_1 + 1))] rfl (by (try simp only [List.map_toArray,List.map_cons,List.map_nil]);first|done|rfl|(simp only [List.length_drop,List.length_take];rfl)) ?_;(with_reducible refine (spec_l6Cur_wide.calls g s0_0 x1001_2 x1002_2 (wrap64 (x6_1 + 1)) t135 t136 t137 w0 _ ?side1 ?side2 A28.out).mono ?_);(case side1 => repeat (first|(with_reducible first|exact HI0.out|apply IsS59.alloc|apply IsS59.drewN|apply IsS59.drew|apply IsS59.set_1|apply IsS59.set_2|refine IsS59.far ?_ NB0_117.out _|refine IsS59.far ?_ NB0_118.out _)|exact HI0.out));(case side2 => repeat (first|(with_reducible first|exact HB.out|apply bA|apply bN|apply bD|refine bS ?_ (IsS59.ge HI0.out)|refine bS ?_ GE117.out|refine bS ?_ GE118.out)|exact HB.out));rintro e w32 ⟨rfl,hi,hb,hk⟩;refine ⟨_,rfl,?_⟩;have n0_:=Am (Kd.R_mono (Kd.R_keep (IsS59.apart (show IsS59 w0 _ g s0_0 x1001_2 x1002_2 from by repeat (first|(with_reducible first|exact HI0.out|apply IsS59.alloc|apply IsS59.drewN|apply IsS59.drew|apply IsS59.set_1|apply IsS59.set_2|refine IsS59.far ?_ NB0_117.out _|refine IsS59.far ?_ NB0_118.out _)|exact HI0.out)) (by (with_reducible repeat (first|apply Kd.R_alloc|apply Kd.R_drewN|apply Kd.R_drew));exact HO_119000.out) (by decide)) hk (fun _ h => h.2)) (fun _ h => h.1));have n1_:=Am (Kd.R_mono (Kd.R_keep (IsS59.apart (show IsS59 w0 _ g s0_0 x1001_2 x1002_2 from by repeat (first|(with_reducible first|exact HI0.out|apply IsS59.alloc|apply IsS59.drewN|apply IsS59.drew|apply IsS59.set_1|apply IsS59.set_2|refine IsS59.far ?_ NB0_117.out _|refine IsS59.far ?_ NB0_118.out _)|exact HI0.out)) (by (with_reducible repeat (first|apply Kd.R_alloc|apply Kd.R_drewN|apply Kd.R_drew));exact HO_119001.out) (by decide)) hk (fun _ h => h.2)) (fun _ h => h.1));have n2_:=Am (KeepBut.blk hk (g':=gb117) (o:=.cells #[.slice none 0 0,.slice none 0 0,.int .i64 0,.int .i64 0,.int .i64 0] 26 (0,0)) (by (with_reducible repeat (first|refine kN ?_ _|refine kD ?_|refine kA ?_ _));exact BK117.out) NB117_0.out (by simp));have n3_:=Am (KeepBut.blk hk (g':=gb118) (o:=.cells #[u119000,u119001,.int .i64 0,.int .i64 0,.int .i64 0] 26 (0,0)) (by (with_reducible repeat (first|refine kN ?_ _|refine kD ?_|refine kA ?_ _));exact BK118.out) NB118_0.out (by simp));have n4_:=Am (KeepBut.trans (by repeat (first|(with_reducible first|exact HK.out|apply KeepBut.set_|apply keep_drewN|apply keep_drew|apply keep_alloc|refine keep_far ?_ GW117.out _|refine keep_far ?_ GW118.out _)|exact HK.out)) hk (.inl rfl));have n5_:=Am (hb);have n6_:=Am (hi);clear HO_119000;clear HO_119001;clear BK117;clear BK118;clear HK;clear HB;clear HI0;have HO_119000:=n0_;have HO_119001:=n1_;have BK117:=n2_;have BK118:=n3_;have HK:=n4_;have HB:=n5_;have HI0:=n6_;clear n0_ n1_ n2_ n3_ n4_ n5_ n6_;(try clear hb);(try clear hb2);(try clear hk);(try clear hi))|((with_reducible refine gate_callee (f:=32) rfl ?_);refine goesL_ (some 53) rfl rfl Try.func32 (by kernel_rfl) rfl #[.pointer (some ⟨g,0,none⟩),.int .i64 (wrap64 ((wrap64 (x6_1 - t135)) + 1))] rfl (by (try simp only [List.map_toArray,List.map_cons,List.map_nil]);first|done|rfl|(simp only [List.length_drop,List.length_take];rfl)) ?_;(with_reducible refine (spec_l6Cur_wide.calls g s0_0 t136 t137 (wrap64 ((wrap64 (x6_1 - t135)) + 1)) t138 t139 t140 w0 _ ?side1 ?side2 A29.out).mono ?_);(case side1 => repeat (first|(with_reducible first|exact HI0.out|apply IsS59.alloc|apply IsS59.drewN|apply IsS59.drew|apply IsS59.set_1|apply IsS59.set_2|refine IsS59.far ?_ NB0_117.out _|refine IsS59.far ?_ NB0_118.out _)|exact HI0.out));(case side2 => repeat (first|(with_reducible first|exact HB.out|apply bA|apply bN|apply bD|refine bS ?_ (IsS59.ge HI0.out)|refine bS ?_ GE117.out|refine bS ?_ GE118.out)|exact HB.out));rintro e w33 ⟨rfl,hi,hb,hk⟩;refine ⟨_,rfl,?_⟩;have n0_:=Am (Kd.R_mono (Kd.R_keep (IsS59.apart (show IsS59 w0 _ g s0_0 t136 t137 from by repeat (first|(with_reducible first|exact HI0.out|apply IsS59.alloc|apply IsS59.drewN|apply IsS59.drew|apply IsS59.set_1|apply IsS59.set_2|refine IsS59.far ?_ NB0_117.out _|refine IsS59.far ?_ NB0_118.out _)|exact HI0.out)) (by (with_reducible repeat (first|apply Kd.R_alloc|apply Kd.R_drewN|apply Kd.R_drew));exact HO_119000.out) (by decide)) hk (fun _ h => h.2)) (fun _ h => h.1));have n1_:=Am (Kd.R_mono (Kd.R_keep (IsS59.apart (show IsS59 w0 _ g s0_0 t136 t137 from by repeat (first|(with_reducible first|exact HI0.out|apply IsS59.alloc|apply IsS59.drewN|apply IsS59.drew|apply IsS59.set_1|apply IsS59.set_2|refine IsS59.far ?_ NB0_117.out _|refine IsS59.far ?_ NB0_118.out _)|exact HI0.out)) (by (with_reducible repeat (first|apply Kd.R_alloc|apply Kd.R_drewN|apply Kd.R_drew));exact HO_119001.out) (by decide)) hk (fun _ h => h.2)) (fun _ h => h.1));have n2_:=Am (KeepBut.blk hk (g':=gb117) (o:=.cells #[.slice none 0 0,.slice none 0 0,.int .i64 0,.int .i64 0,.int .i64 0] 26 (0,0)) (by (with_reducible repeat (first|refine kN ?_ _|refine kD ?_|refine kA ?_ _));exact BK117.out) NB117_0.out (by simp));have n3_:=Am (KeepBut.blk hk (g':=gb118) (o:=.cells #[u119000,u119001,.int .i64 0,.int .i64 0,.int .i64 0] 26 (0,0)) (by (with_reducible repeat (first|refine kN ?_ _|refine kD ?_|refine kA ?_ _));exact BK118.out) NB118_0.out (by simp));have n4_:=Am (KeepBut.trans (by repeat (first|(with_reducible first|exact HK.out|apply KeepBut.set_|apply keep_drewN|apply keep_drew|apply keep_alloc|refine keep_far ?_ GW117.out _|refine keep_far ?_ GW118.out _)|exact HK.out)) hk (.inl rfl));have n5_:=Am (hb);have n6_:=Am (hi);clear HO_119000;clear HO_119001;clear BK117;clear BK118;clear HK;clear HB;clear HI0;have HO_119000:=n0_;have HO_119001:=n1_;have BK117:=n2_;have BK118:=n3_;have HK:=n4_;have HB:=n5_;have HI0:=n6_;clear n0_ n1_ n2_ n3_ n4_ n5_ n6_;(try clear hb);(try clear hb2);(try clear hk);(try clear hi)))
        have n0_:=Am (Kd.R_drew HO_119000.out)
        have n1_:=Am (Kd.R_drew HO_119001.out)
        have n2_:=Am (kD BK117.out)
        have n3_:=Am (kD BK118.out)
        have n4_:=Am (IsS59.drew HI0.out)
        have n5_:=Am (keep_drew HK.out)
        have n6_:=Am (bD HB.out)
        clear HO_119000
        clear HO_119001
        clear BK117
        clear BK118
        clear HI0
        clear HK
        clear HB
        have HO_119000:=n0_
        have HO_119001:=n1_
        have BK117:=n2_
        have BK118:=n3_
        have HI0:=n4_
        have HK:=n5_
        have HB:=n6_
        clear n0_ n1_ n2_ n3_ n4_ n5_ n6_
        refine start_ (n:=14) (S:=fun w' => w'.cell? ⟨gb118,0,none⟩ = some (u119000)∧w'.cell? ⟨gb118,1,none⟩ = some (u119001)∧w'.cell? ⟨gb118,2,none⟩ = some (.int .i64 0)∧w'.cell? ⟨gb118,3,none⟩ = some (.int .i64 0)∧w'.cell? ⟨gb118,4,none⟩ = some (.int .i64 0)) (ds:=[13]) #[false,false,false,false,false,false,false,false,false,false,false,false,false,false] (by kernel_rfl) rfl rfl ⟨(kC BK118.out 0).trans rfl,(kC BK118.out 1).trans rfl,(kC BK118.out 2).trans rfl,(kC BK118.out 3).trans rfl,(kC BK118.out 4).trans rfl⟩ (fun hHeld => ?_);refine with_tabW spec_l6Cur_profile.tab14 spec_l6Cur_profile.bits14 (fun HT_ HW_ => ?_)
        generalize w33.drew = w34 at HO_119000 HO_119001 BK117 BK118 HI0 HK HB hHeld ⊢
        refine pure_ (i:=0) (N:=some 55) (v:=?_) (a':=?_) #[true,false,false,false,false,false,false,false,false,false,false,false,false,false] rfl rfl (any_of HT_.out (by kernel_rfl)) (fun _ _ _ h => h) (Or.inl ⟨by rfl,?_⟩) ?_ ?_
        rotate_left
        ·intro w'
         go_simp
         with_reducible rfl
        rotate_left
        ·simp only [Act.put,pS]
         rfl
        refine pure_ (i:=2) (N:=some 57) (v:=?_) (a':=?_) #[true,false,true,false,false,false,false,false,false,false,false,false,false,false] rfl rfl (any_of HT_.out (by kernel_rfl)) (fun _ _ _ h => h) (Or.inl ⟨by rfl,?_⟩) ?_ ?_
        rotate_left
        ·intro w'
         go_simp
         with_reducible rfl
        rotate_left
        ·simp only [Act.put,pS]
         rfl
        refine pure_ (i:=3) (N:=some 58) (v:=?_) (a':=?_) #[true,false,true,true,false,false,false,false,false,false,false,false,false,false] rfl rfl (any_of HT_.out (by kernel_rfl)) (fun _ _ _ h => h) (Or.inl ⟨by rfl,?_⟩) ?_ ?_
        rotate_left
        ·intro w'
         go_simp
         with_reducible rfl
        rotate_left
        ·simp only [Act.put,pS]
         rfl
        refine pure_ (i:=4) (N:=some 59) (v:=?_) (a':=?_) #[true,false,true,true,true,false,false,false,false,false,false,false,false,false] rfl rfl (any_of HT_.out (by kernel_rfl)) (fun _ _ _ h => h) (Or.inl ⟨by rfl,?_⟩) ?_ ?_
        rotate_left
        ·intro w'
         go_simp
         with_reducible rfl
        rotate_left
        ·simp only [Act.put,pS]
         rfl
        refine pure_ (i:=5) (N:=some 60) (v:=?_) (a':=?_) #[true,false,true,true,true,true,false,false,false,false,false,false,false,false] rfl rfl (any_of HT_.out (by kernel_rfl)) (fun _ _ _ h => h) (Or.inl ⟨by rfl,?_⟩) ?_ ?_
        rotate_left
        ·intro w'
         go_simp
         with_reducible rfl
        rotate_left
        ·simp only [Act.put,pS]
         rfl
        refine pure_ (i:=6) (N:=some 61) (v:=?_) (a':=?_) #[true,false,true,true,true,true,true,false,false,false,false,false,false,false] rfl rfl (any_of HT_.out (by kernel_rfl)) (fun _ _ _ h => h) (Or.inl ⟨by rfl,?_⟩) ?_ ?_
        rotate_left
        ·intro w'
         go_simp
         with_reducible rfl
        rotate_left
        ·simp only [Act.put,pS]
         rfl
        refine take_ (i:=1) (N:=some 56) (v:=?_) (a':=?_) #[true,true,true,true,true,true,true,false,false,false,false,false,false,false] rfl rfl (take_ofW HT_.out HW_.out (by kernel_rfl)) (fun _ _ _ h => h) (Or.inl ⟨by rfl,?_⟩) hHeld ?_ ?_
        rotate_left
        ·rintro w' ⟨s0,s1,s2,s3,s4⟩
         go_simp
         with_reducible rfl
        rotate_left
        ·simp only [Act.put,pS]
         rfl
        refine one_ (i:=7) (N:=some 62) #[true,true,true,true,true,true,true,true,false,false,false,false,false,false] rfl rfl (one_of HT_.out (by kernel_rfl)) (by decide) (fun K hK => ?_)
        refine goes_ Try.func32 (by kernel_rfl) rfl #[.pointer (some ⟨g,0,none⟩),.int .i64 (wrap64 (12 * a1))] (by rfl) rfl rfl (by (try simp only [List.map_toArray,List.map_cons,List.map_nil]);first|done|rfl|(simp only [List.length_drop,List.length_take];rfl)) ?_
        with_reducible refine (spec_l6Cur_wide.calls g s0_0 t139 t140 (wrap64 (12 * a1)) t141 t142 t143 w0 _ ?side1 ?side2 A30.out).mono ?_
        (case side1 => repeat (first|(with_reducible first|exact HI0.out|apply IsS59.alloc|apply IsS59.drewN|apply IsS59.drew|apply IsS59.set_1|apply IsS59.set_2|refine IsS59.far ?_ NB0_117.out _|refine IsS59.far ?_ NB0_118.out _)|exact HI0.out))
        (case side2 => repeat (first|(with_reducible first|exact HB.out|apply bA|apply bN|apply bD|refine bS ?_ (IsS59.ge HI0.out)|refine bS ?_ GE117.out|refine bS ?_ GE118.out)|exact HB.out))
        rintro e w35 ⟨rfl,hi,hb,hk⟩
        refine ⟨_,rfl,?_⟩
        have n0_:=Am (Kd.R_mono (Kd.R_keep (IsS59.apart (show IsS59 w0 _ g s0_0 t139 t140 from by repeat (first|(with_reducible first|exact HI0.out|apply IsS59.alloc|apply IsS59.drewN|apply IsS59.drew|apply IsS59.set_1|apply IsS59.set_2|refine IsS59.far ?_ NB0_117.out _|refine IsS59.far ?_ NB0_118.out _)|exact HI0.out)) (by (with_reducible repeat (first|apply Kd.R_alloc|apply Kd.R_drewN|apply Kd.R_drew));exact HO_119000.out) (by decide)) hk (fun _ h => h.2)) (fun _ h => h.1))
        have n1_:=Am (Kd.R_mono (Kd.R_keep (IsS59.apart (show IsS59 w0 _ g s0_0 t139 t140 from by repeat (first|(with_reducible first|exact HI0.out|apply IsS59.alloc|apply IsS59.drewN|apply IsS59.drew|apply IsS59.set_1|apply IsS59.set_2|refine IsS59.far ?_ NB0_117.out _|refine IsS59.far ?_ NB0_118.out _)|exact HI0.out)) (by (with_reducible repeat (first|apply Kd.R_alloc|apply Kd.R_drewN|apply Kd.R_drew));exact HO_119001.out) (by decide)) hk (fun _ h => h.2)) (fun _ h => h.1))
        have n2_:=Am (KeepBut.blk hk (g':=gb117) (o:=.cells #[.slice none 0 0,.slice none 0 0,.int .i64 0,.int .i64 0,.int .i64 0] 26 (0,0)) (by (with_reducible repeat (first|refine kN ?_ _|refine kD ?_|refine kA ?_ _));exact BK117.out) NB117_0.out (by simp))
        have n3_:=Am (KeepBut.blk hk (g':=gb118) (o:=.cells #[u119000,u119001,.int .i64 0,.int .i64 0,.int .i64 0] 26 (0,0)) (by (with_reducible repeat (first|refine kN ?_ _|refine kD ?_|refine kA ?_ _));exact BK118.out) NB118_0.out (by simp))
        have n4_:=Am (KeepBut.trans (by repeat (first|(with_reducible first|exact HK.out|apply KeepBut.set_|apply keep_drewN|apply keep_drew|apply keep_alloc|refine keep_far ?_ GW117.out _|refine keep_far ?_ GW118.out _)|exact HK.out)) hk (.inl rfl))
        have n5_:=Am (hb)
        have n6_:=Am (hi)
        clear HO_119000
        clear HO_119001
        clear BK117
        clear BK118
        clear HK
        clear HB
        clear HI0
        have HO_119000:=n0_
        have HO_119001:=n1_
        have BK117:=n2_
        have BK118:=n3_
        have HK:=n4_
        have HB:=n5_
        have HI0:=n6_
        clear n0_ n1_ n2_ n3_ n4_ n5_ n6_
        (try clear hb)
        (try clear hb2)
        (try clear hk)
        (try clear hi)
        refine hK.out _ _ ⟨(kC BK118.out 0).trans rfl,(kC BK118.out 1).trans rfl,(kC BK118.out 2).trans rfl,(kC BK118.out 3).trans rfl,(kC BK118.out 4).trans rfl⟩ (fun hHeld => ?_)
        clear hK K
        refine norm_ (a':=?_) ?_ ?_
        rotate_left
        ·show Act.put _ (some 62) _ = _
         simp only [Act.put,pS]
         rfl
        refine pure_ (i:=8) (N:=some 63) (v:=?_) (a':=?_) #[true,true,true,true,true,true,true,true,true,false,false,false,false,false] rfl rfl (any_of HT_.out (by kernel_rfl)) (fun _ _ _ h => h) (Or.inl ⟨by rfl,?_⟩) ?_ ?_
        rotate_left
        ·intro w'
         go_simp
         with_reducible rfl
        rotate_left
        ·simp only [Act.put,pS]
         rfl
        refine pure_ (i:=9) (N:=some 64) (v:=?_) (a':=?_) #[true,true,true,true,true,true,true,true,true,true,false,false,false,false] rfl rfl (any_of HT_.out (by kernel_rfl)) (fun _ _ _ h => h) (Or.inl ⟨by rfl,?_⟩) ?_ ?_
        rotate_left
        ·intro w'
         go_simp
         with_reducible rfl
        rotate_left
        ·simp only [Act.put,pS]
         rfl
        refine one_ (i:=10) (N:=some 65) #[true,true,true,true,true,true,true,true,true,true,true,false,false,false] rfl rfl (one_of HT_.out (by kernel_rfl)) (by decide) (fun K hK => ?_)
        refine value_ (w1:=?_) (v:=?_) (by rfl) rfl ?_ ?_
        rotate_left 2
        ·go_simp
         constructor
         ·rfl
         ·rfl
        refine hK.out _ _ ⟨(kC (kA BK118.out _) 0).trans rfl,(kC (kA BK118.out _) 1).trans rfl,(kC (kA BK118.out _) 2).trans rfl,(kC (kA BK118.out _) 3).trans rfl,(kC (kA BK118.out _) 4).trans rfl⟩ (fun hHeld => ?_)
        clear hK K
        refine norm_ (a':=?_) ?_ ?_
        rotate_left
        ·show Act.put _ (some 65) _ = _
         simp only [Act.put,pS]
         rfl
        refine one_ (i:=11) (N:=some 66) #[true,true,true,true,true,true,true,true,true,true,true,true,false,false] rfl rfl (one_of HT_.out (by kernel_rfl)) (by decide) (fun K hK => ?_)
        refine Kd.R_append_step k45 w.heap.size (by rfl) (.tmp 56) (.tmp 65) 24 45 (.agg #[(.int .i64 0),(.int .i64 0),(.int .i64 0)]) 24 rfl Try.underlying24 info45 rfl (by decide) (by omega) u119001 x119001_2 (⟨t135,wrap64 (t135 + t138),wrap64 (1 + t141)⟩ : S45) [.int .i64 t135,.int .i64 (wrap64 (t135 + t138)),.int .i64 (wrap64 (1 + t141))] (fun _ => True) (fun _ => False) rfl rfl ?aP (fun _ hk => hk.elim) ?aF ?aO (Below.refl _ _) ?aS ?aL ?_
        (case aP => exact k45_mkM _ _ _ (⟨t135,wrap64 (t135 + t138),wrap64 (1 + t141)⟩ : S45))
        (case aF => exact (fun _ _ => trivial))
        (case aO => exact (by (with_reducible repeat (first|apply Kd.R_alloc|apply Kd.R_drewN|apply Kd.R_drew));exact HO_119001.out))
        (case aS => exact (keep_size (w:=w) (g:=g) (row:=none) (by repeat (first|(with_reducible first|exact HK.out|apply KeepBut.set_|apply keep_drewN|apply keep_drew|apply keep_alloc|refine keep_far ?_ GW117.out _|refine keep_far ?_ GW118.out _)|exact HK.out))))
        (case aL => have:=LMc31.out;omega)
        intro v145 w36 ho hb hg hat
        rw [← Ny144.out] at ho
        have n0_:=Am (Kd.R_over' (by (with_reducible repeat (first|apply Kd.R_alloc|apply Kd.R_drewN|apply Kd.R_drew));exact HO_119000.out) (Kd.R_typed (by (with_reducible repeat (first|apply Kd.R_alloc|apply Kd.R_drewN|apply Kd.R_drew));exact HO_119001.out)) (by decide) hg)
        have n1_:=Am (blk_grown (g:=gb117) (o:=.cells #[.slice none 0 0,.slice none 0 0,.int .i64 0,.int .i64 0,.int .i64 0] 26 (0,0)) (by (with_reducible repeat (first|refine kN ?_ _|refine kD ?_|refine kA ?_ _));exact BK117.out) hg (Kd.R_ne HO_119001.out BK117.out (by decide)))
        have n2_:=Am (blk_grown (g:=gb118) (o:=.cells #[u119000,u119001,.int .i64 0,.int .i64 0,.int .i64 0] 26 (0,0)) (by (with_reducible repeat (first|refine kN ?_ _|refine kD ?_|refine kA ?_ _));exact BK118.out) hg (Kd.R_ne HO_119001.out BK118.out (by decide)))
        have n3_:=Am (IsS59.grown (show IsS59 w0 _ g s0_0 t142 t143 from by repeat (first|(with_reducible first|exact HI0.out|apply IsS59.alloc|apply IsS59.drewN|apply IsS59.drew|apply IsS59.set_1|apply IsS59.set_2|refine IsS59.far ?_ NB0_117.out _|refine IsS59.far ?_ NB0_118.out _)|exact HI0.out)) hg (IsS59.own_ne HI0.out HO_119001.out (by decide)))
        have n4_:=Am (below_weaken (by repeat (first|(with_reducible first|exact HB.out|apply bA|apply bN|apply bD|refine bS ?_ (IsS59.ge HI0.out)|refine bS ?_ GE117.out|refine bS ?_ GE118.out)|exact HB.out)) HL.out hb)
        have n5_:=Am (KeepBut.trans (by repeat (first|(with_reducible first|exact HK.out|apply KeepBut.set_|apply keep_drewN|apply keep_drew|apply keep_alloc|refine keep_far ?_ GW117.out _|refine keep_far ?_ GW118.out _)|exact HK.out)) (KeepBut.of_grown hg g) (Kd.R_base2 HO_119001.out))
        have n6_:=Am (ho)
        clear HO_119000
        clear BK117
        clear BK118
        clear HI0
        clear HB
        clear HK
        clear HO_119001
        have HO_119000:=n0_
        have BK117:=n1_
        have BK118:=n2_
        have HI0:=n3_
        have HB:=n4_
        have HK:=n5_
        have HO146:=n6_
        clear n0_ n1_ n2_ n3_ n4_ n5_ n6_
        clear ho hb hg hat
        obtain ⟨Ao37,co37,eo37⟩:=Kd.R_slice HO146.out
        (first|subst eo37|(injection eo37 with f1_ f2_ f3_;have f4_:=f1_.symm;have f5_:=f3_.symm;clear f1_ f2_ f3_;subst f4_;subst f5_))
        refine hK.out _ _ ⟨(kC BK118.out 0).trans rfl,(kC BK118.out 1).trans rfl,(kC BK118.out 2).trans rfl,(kC BK118.out 3).trans rfl,(kC BK118.out 4).trans rfl⟩ (fun hHeld => ?_)
        clear hK K
        refine norm_ (a':=?_) ?_ ?_
        rotate_left
        ·show Act.put _ (some 66) _ = _
         simp only [Act.put,pS]
         rfl
        refine pure_ (i:=12) (N:=some 67) (v:=?_) (a':=?_) #[true,true,true,true,true,true,true,true,true,true,true,true,true,false] rfl rfl (any_of HT_.out (by kernel_rfl)) (fun _ _ _ h => h) (Or.inl ⟨by rfl,?_⟩) ?_ ?_
        rotate_left
        ·intro w'
         go_simp
         with_reducible rfl
        rotate_left
        ·simp only [Act.put,pS]
         rfl
        refine last_ (i:=13) (N:=none) #[true,true,true,true,true,true,true,true,true,true,true,true,true,true] rfl rfl (one_of HT_.out (by kernel_rfl)) (by decide) (fun K hK => ?_)
        have hs38 : w36.cell? ⟨gb118,1,none⟩ = some (u119001):=(kC BK118.out 1).trans rfl
        have hfs38:=kF BK118.out 1
        have hns38_0:=NB117_118.out
        have hms38_0:=NB118_117.out
        refine skip_ (w1:=?_) (by rfl) rfl ?_ ?_
        rotate_left
        ·go_simp
         rfl
        refine hK.out _ _ ?_
        clear hK K
        refine done_ (done_of HT_.out (by kernel_rfl)) ?_
        try go_wp2
        go_roundg k2
        case measure => have:=HK1.out;have:=HK2.out;omega
        case rel => exact ⟨(wrap64 (x9_2 - 1)),(t142),(t143),(y144),(.slice Ao37 y144.length co37),(by first|rfl|(simp;done)|(simp [*];done)),H',⟨by have:=HK1.out;have:=HK2.out;omega⟩,⟨by (with_reducible repeat (first|apply Kd.R_alloc|apply Kd.R_drewN|apply Kd.R_drew));exact Kd.R_mono (Kd.R_far (p:=⟨gb118,1,none⟩) (Kd.R_types HO_119000.out BK118.out (by decide)) (fun _ hk => hk.2) (.slice Ao37 y144.length co37)) (fun _ hk => trivial)⟩,⟨by (with_reducible repeat (first|apply Kd.R_alloc|apply Kd.R_drewN|apply Kd.R_drew));exact Kd.R_mono (Kd.R_far (p:=⟨gb118,1,none⟩) (Kd.R_types HO146.out BK118.out (by decide)) (fun _ hk => hk.2) (.slice Ao37 y144.length co37)) (fun _ hk => trivial)⟩,⟨by (with_reducible repeat (first|refine kN ?_ _|refine kD ?_|refine kA ?_ _));refine blk_far ?_ NB117_118.out _;(with_reducible repeat (first|refine kN ?_ _|refine kD ?_|refine kA ?_ _));exact BK117.out⟩,⟨by (with_reducible repeat (first|refine kN ?_ _|refine kD ?_|refine kA ?_ _));refine blk_put (cs:=#[u119000,u119001,.int .i64 0,.int .i64 0,.int .i64 0]) ?_ 1 _ rfl;(with_reducible repeat (first|refine kN ?_ _|refine kD ?_|refine kA ?_ _));exact BK118.out⟩,⟨by repeat (first|(with_reducible first|exact HI0.out|apply IsS59.alloc|apply IsS59.drewN|apply IsS59.drew|apply IsS59.set_1|apply IsS59.set_2|refine IsS59.far ?_ NB0_117.out _|refine IsS59.far ?_ NB0_118.out _)|exact HI0.out)⟩,⟨by repeat (first|(with_reducible first|exact HK.out|apply KeepBut.set_|apply keep_drewN|apply keep_drew|apply keep_alloc|refine keep_far ?_ GW117.out _|refine keep_far ?_ GW118.out _)|exact HK.out)⟩,⟨by repeat (first|(with_reducible first|exact HB.out|apply bA|apply bN|apply bD|refine bS ?_ (IsS59.ge HI0.out)|refine bS ?_ GE117.out|refine bS ?_ GE118.out)|exact HB.out)⟩⟩
       ·rw [if_neg c31] at H
        exact absurd H (by simp)
      ·rw [if_neg c27] at H
       have c27b0 : decide (0 < x9_2) = false:=decide_eq_false c27
       clear c27
       replace H:=Option.bind_eq_some_iff.mp H
       obtain ⟨⟨t147,t148,t149⟩,A390,H⟩:=H
       replace H : ((spec_l6Cur_wide.f s0_0 t148 t149 (wrap64 (x6_1 + 1))).bind fun bt150 => ((spec_l6Cur_pick.f s0_0 bt150.2.1 bt150.2.2 2).bind fun bt153 => ((spec_l6Cur_pick.f s0_0 bt153.2.1 bt153.2.2 4).bind fun bt156 => (some (x119000_1,x119001_2,t147,wrap64 (x6_1 - (wrap64 (Int.tdiv (wrap64 (bt150.1 * bt153.1)) 2))),bt156.1,bt156.2.1,bt156.2.2))))) = some (r1,r2,r3,r4,r5,r6,r7):=H
       have A39:=Am A390
       clear A390
       replace H:=Option.bind_eq_some_iff.mp H
       obtain ⟨⟨t150,t151,t152⟩,A400,H⟩:=H
       replace H : ((spec_l6Cur_pick.f s0_0 t151 t152 2).bind fun bt153 => ((spec_l6Cur_pick.f s0_0 bt153.2.1 bt153.2.2 4).bind fun bt156 => (some (x119000_1,x119001_2,t147,wrap64 (x6_1 - (wrap64 (Int.tdiv (wrap64 (t150 * bt153.1)) 2))),bt156.1,bt156.2.1,bt156.2.2)))) = some (r1,r2,r3,r4,r5,r6,r7):=H
       have A40:=Am A400
       clear A400
       replace H:=Option.bind_eq_some_iff.mp H
       obtain ⟨⟨t153,t154,t155⟩,A410,H⟩:=H
       replace H : ((spec_l6Cur_pick.f s0_0 t154 t155 4).bind fun bt156 => (some (x119000_1,x119001_2,t147,wrap64 (x6_1 - (wrap64 (Int.tdiv (wrap64 (t150 * t153)) 2))),bt156.1,bt156.2.1,bt156.2.2))) = some (r1,r2,r3,r4,r5,r6,r7):=H
       have A41:=Am A410
       clear A410
       replace H:=Option.bind_eq_some_iff.mp H
       obtain ⟨⟨t156,t157,t158⟩,A420,H⟩:=H
       replace H : (some (x119000_1,x119001_2,t147,wrap64 (x6_1 - (wrap64 (Int.tdiv (wrap64 (t150 * t153)) 2))),t156,t157,t158)) = some (r1,r2,r3,r4,r5,r6,r7):=H
       have A42:=Am A420
       clear A420
       simp only [Option.some.injEq,Prod.mk.injEq] at H
       obtain ⟨rfl,rfl,rfl,rfl,rfl,rfl,rfl⟩:=H
       go_wp2_with (first|((with_reducible refine gate_callee (f:=32) rfl ?_);refine goesL_ (some 71) rfl rfl Try.func32 (by kernel_rfl) rfl #[.pointer (some ⟨g,0,none⟩),.int .i64 (wrap64 (30 * a1))] rfl (by (try simp only [List.map_toArray,List.map_cons,List.map_nil]);first|done|rfl|(simp only [List.length_drop,List.length_take];rfl)) ?_;(with_reducible refine (spec_l6Cur_wide.calls g s0_0 x1001_2 x1002_2 (wrap64 (30 * a1)) t147 t148 t149 w0 _ ?side1 ?side2 A39.out).mono ?_);(case side1 => repeat (first|(with_reducible first|exact HI0.out|apply IsS59.alloc|apply IsS59.drewN|apply IsS59.drew|apply IsS59.set_1|apply IsS59.set_2|refine IsS59.far ?_ NB0_117.out _|refine IsS59.far ?_ NB0_118.out _)|exact HI0.out));(case side2 => repeat (first|(with_reducible first|exact HB.out|apply bA|apply bN|apply bD|refine bS ?_ (IsS59.ge HI0.out)|refine bS ?_ GE117.out|refine bS ?_ GE118.out)|exact HB.out));rintro e w43 ⟨rfl,hi,hb,hk⟩;refine ⟨_,rfl,?_⟩;have n0_:=Am (Kd.R_mono (Kd.R_keep (IsS59.apart (show IsS59 w0 _ g s0_0 x1001_2 x1002_2 from by repeat (first|(with_reducible first|exact HI0.out|apply IsS59.alloc|apply IsS59.drewN|apply IsS59.drew|apply IsS59.set_1|apply IsS59.set_2|refine IsS59.far ?_ NB0_117.out _|refine IsS59.far ?_ NB0_118.out _)|exact HI0.out)) (by (with_reducible repeat (first|apply Kd.R_alloc|apply Kd.R_drewN|apply Kd.R_drew));exact HO_119000.out) (by decide)) hk (fun _ h => h.2)) (fun _ h => h.1));have n1_:=Am (Kd.R_mono (Kd.R_keep (IsS59.apart (show IsS59 w0 _ g s0_0 x1001_2 x1002_2 from by repeat (first|(with_reducible first|exact HI0.out|apply IsS59.alloc|apply IsS59.drewN|apply IsS59.drew|apply IsS59.set_1|apply IsS59.set_2|refine IsS59.far ?_ NB0_117.out _|refine IsS59.far ?_ NB0_118.out _)|exact HI0.out)) (by (with_reducible repeat (first|apply Kd.R_alloc|apply Kd.R_drewN|apply Kd.R_drew));exact HO_119001.out) (by decide)) hk (fun _ h => h.2)) (fun _ h => h.1));have n2_:=Am (KeepBut.blk hk (g':=gb117) (o:=.cells #[.slice none 0 0,.slice none 0 0,.int .i64 0,.int .i64 0,.int .i64 0] 26 (0,0)) (by (with_reducible repeat (first|refine kN ?_ _|refine kD ?_|refine kA ?_ _));exact BK117.out) NB117_0.out (by simp));have n3_:=Am (KeepBut.blk hk (g':=gb118) (o:=.cells #[u119000,u119001,.int .i64 0,.int .i64 0,.int .i64 0] 26 (0,0)) (by (with_reducible repeat (first|refine kN ?_ _|refine kD ?_|refine kA ?_ _));exact BK118.out) NB118_0.out (by simp));have n4_:=Am (KeepBut.trans (by repeat (first|(with_reducible first|exact HK.out|apply KeepBut.set_|apply keep_drewN|apply keep_drew|apply keep_alloc|refine keep_far ?_ GW117.out _|refine keep_far ?_ GW118.out _)|exact HK.out)) hk (.inl rfl));have n5_:=Am (hb);have n6_:=Am (hi);clear HO_119000;clear HO_119001;clear BK117;clear BK118;clear HK;clear HB;clear HI0;have HO_119000:=n0_;have HO_119001:=n1_;have BK117:=n2_;have BK118:=n3_;have HK:=n4_;have HB:=n5_;have HI0:=n6_;clear n0_ n1_ n2_ n3_ n4_ n5_ n6_;(try clear hb);(try clear hb2);(try clear hk);(try clear hi);have hnb44:=NB118_117.out;have hnc44:=NB117_118.out;have hnb45:=NB118_0.out;have hnc45:=NB0_118.out;have hcz46_0 : w43.cell? ⟨gb118,0,none⟩ = some (u119000):=(kC BK118.out 0).trans rfl;have hcz46_1 : w43.cell? ⟨gb118,1,none⟩ = some (u119001):=(kC BK118.out 1).trans rfl;have hcz46_2 : w43.cell? ⟨gb118,2,none⟩ = some (.int .i64 0):=(kC BK118.out 2).trans rfl;have hcz46_3 : w43.cell? ⟨gb118,3,none⟩ = some (.int .i64 0):=(kC BK118.out 3).trans rfl;have hcz46_4 : w43.cell? ⟨gb118,4,none⟩ = some (.int .i64 0):=(kC BK118.out 4).trans rfl;have hfz46_0:=kF BK118.out 0;have hfz46_1:=kF BK118.out 1;have hfz46_2:=kF BK118.out 2;have hfz46_3:=kF BK118.out 3;have hfz46_4:=kF BK118.out 4)|((with_reducible refine gate_callee (f:=32) rfl ?_);refine goesL_ (some 77) rfl rfl Try.func32 (by kernel_rfl) rfl #[.pointer (some ⟨g,0,none⟩),.int .i64 (wrap64 (x6_1 + 1))] rfl (by (try simp only [List.map_toArray,List.map_cons,List.map_nil]);first|done|rfl|(simp only [List.length_drop,List.length_take];rfl)) ?_;(with_reducible refine (spec_l6Cur_wide.calls g s0_0 t148 t149 (wrap64 (x6_1 + 1)) t150 t151 t152 w0 _ ?side1 ?side2 A40.out).mono ?_);(case side1 => repeat (first|(with_reducible first|exact HI0.out|apply IsS59.alloc|apply IsS59.drewN|apply IsS59.drew|apply IsS59.set_1|apply IsS59.set_2|refine IsS59.far ?_ NB0_117.out _|refine IsS59.far ?_ NB0_118.out _)|exact HI0.out));(case side2 => repeat (first|(with_reducible first|exact HB.out|apply bA|apply bN|apply bD|refine bS ?_ (IsS59.ge HI0.out)|refine bS ?_ GE117.out|refine bS ?_ GE118.out)|exact HB.out));rintro e w47 ⟨rfl,hi,hb,hk⟩;refine ⟨_,rfl,?_⟩;have n0_:=Am (Kd.R_mono (Kd.R_keep (IsS59.apart (show IsS59 w0 _ g s0_0 t148 t149 from by repeat (first|(with_reducible first|exact HI0.out|apply IsS59.alloc|apply IsS59.drewN|apply IsS59.drew|apply IsS59.set_1|apply IsS59.set_2|refine IsS59.far ?_ NB0_117.out _|refine IsS59.far ?_ NB0_118.out _)|exact HI0.out)) (by (with_reducible repeat (first|apply Kd.R_alloc|apply Kd.R_drewN|apply Kd.R_drew));exact (Kd.R_mono (Kd.R_far (p:=⟨gb118,2,none⟩) (Kd.R_types HO_119000.out BK118.out (by decide)) (fun _ hk => hk.2) (.int .i64 t147)) (fun _ h_ => h_.1))) (by decide)) hk (fun _ h => h.2)) (fun _ h => h.1));have n1_:=Am (Kd.R_mono (Kd.R_keep (IsS59.apart (show IsS59 w0 _ g s0_0 t148 t149 from by repeat (first|(with_reducible first|exact HI0.out|apply IsS59.alloc|apply IsS59.drewN|apply IsS59.drew|apply IsS59.set_1|apply IsS59.set_2|refine IsS59.far ?_ NB0_117.out _|refine IsS59.far ?_ NB0_118.out _)|exact HI0.out)) (by (with_reducible repeat (first|apply Kd.R_alloc|apply Kd.R_drewN|apply Kd.R_drew));exact (Kd.R_mono (Kd.R_far (p:=⟨gb118,2,none⟩) (Kd.R_types HO_119001.out BK118.out (by decide)) (fun _ hk => hk.2) (.int .i64 t147)) (fun _ h_ => h_.1))) (by decide)) hk (fun _ h => h.2)) (fun _ h => h.1));have n2_:=Am (KeepBut.blk hk (g':=gb117) (o:=.cells #[.slice none 0 0,.slice none 0 0,.int .i64 0,.int .i64 0,.int .i64 0] 26 (0,0)) (by (with_reducible repeat (first|refine kN ?_ _|refine kD ?_|refine kA ?_ _));refine blk_far ?_ NB117_118.out _;(with_reducible repeat (first|refine kN ?_ _|refine kD ?_|refine kA ?_ _));exact BK117.out) NB117_0.out (by simp));have n3_:=Am (KeepBut.blk hk (g':=gb118) (o:=.cells #[u119000,u119001,.int .i64 t147,.int .i64 0,.int .i64 0] 26 (0,0)) (by (with_reducible repeat (first|refine kN ?_ _|refine kD ?_|refine kA ?_ _));refine blk_put (cs:=#[u119000,u119001,.int .i64 0,.int .i64 0,.int .i64 0]) ?_ 2 _ rfl;(with_reducible repeat (first|refine kN ?_ _|refine kD ?_|refine kA ?_ _));exact BK118.out) NB118_0.out (by simp));have n4_:=Am (KeepBut.trans (by repeat (first|(with_reducible first|exact HK.out|apply KeepBut.set_|apply keep_drewN|apply keep_drew|apply keep_alloc|refine keep_far ?_ GW117.out _|refine keep_far ?_ GW118.out _)|exact HK.out)) hk (.inl rfl));have n5_:=Am (hb);have n6_:=Am (hi);clear HO_119000;clear HO_119001;clear BK117;clear BK118;clear HK;clear HB;clear HI0;have HO_119000:=n0_;have HO_119001:=n1_;have BK117:=n2_;have BK118:=n3_;have HK:=n4_;have HB:=n5_;have HI0:=n6_;clear n0_ n1_ n2_ n3_ n4_ n5_ n6_;(try clear hb);(try clear hb2);(try clear hk);(try clear hi))|((with_reducible refine gate_callee (f:=31) rfl ?_);refine goesL_ (some 79) rfl rfl Try.func31 (by kernel_rfl) rfl #[.pointer (some ⟨g,0,none⟩),.int .i64 2] rfl (by (try simp only [List.map_toArray,List.map_cons,List.map_nil]);first|done|rfl|(simp only [List.length_drop,List.length_take];rfl)) ?_;(with_reducible refine (spec_l6Cur_pick.calls g s0_0 t151 t152 2 t153 t154 t155 w0 _ ?side1 ?side2 A41.out).mono ?_);(case side1 => repeat (first|(with_reducible first|exact HI0.out|apply IsS59.alloc|apply IsS59.drewN|apply IsS59.drew|apply IsS59.set_1|apply IsS59.set_2|refine IsS59.far ?_ NB0_117.out _|refine IsS59.far ?_ NB0_118.out _)|exact HI0.out));(case side2 => repeat (first|(with_reducible first|exact HB.out|apply bA|apply bN|apply bD|refine bS ?_ (IsS59.ge HI0.out)|refine bS ?_ GE117.out|refine bS ?_ GE118.out)|exact HB.out));rintro e w48 ⟨rfl,hi,hb,hk⟩;refine ⟨_,rfl,?_⟩;have n0_:=Am (Kd.R_mono (Kd.R_keep (IsS59.apart (show IsS59 w0 _ g s0_0 t151 t152 from by repeat (first|(with_reducible first|exact HI0.out|apply IsS59.alloc|apply IsS59.drewN|apply IsS59.drew|apply IsS59.set_1|apply IsS59.set_2|refine IsS59.far ?_ NB0_117.out _|refine IsS59.far ?_ NB0_118.out _)|exact HI0.out)) (by (with_reducible repeat (first|apply Kd.R_alloc|apply Kd.R_drewN|apply Kd.R_drew));exact HO_119000.out) (by decide)) hk (fun _ h => h.2)) (fun _ h => h.1));have n1_:=Am (Kd.R_mono (Kd.R_keep (IsS59.apart (show IsS59 w0 _ g s0_0 t151 t152 from by repeat (first|(with_reducible first|exact HI0.out|apply IsS59.alloc|apply IsS59.drewN|apply IsS59.drew|apply IsS59.set_1|apply IsS59.set_2|refine IsS59.far ?_ NB0_117.out _|refine IsS59.far ?_ NB0_118.out _)|exact HI0.out)) (by (with_reducible repeat (first|apply Kd.R_alloc|apply Kd.R_drewN|apply Kd.R_drew));exact HO_119001.out) (by decide)) hk (fun _ h => h.2)) (fun _ h => h.1));have n2_:=Am (KeepBut.blk hk (g':=gb117) (o:=.cells #[.slice none 0 0,.slice none 0 0,.int .i64 0,.int .i64 0,.int .i64 0] 26 (0,0)) (by (with_reducible repeat (first|refine kN ?_ _|refine kD ?_|refine kA ?_ _));exact BK117.out) NB117_0.out (by simp));have n3_:=Am (KeepBut.blk hk (g':=gb118) (o:=.cells #[u119000,u119001,.int .i64 t147,.int .i64 0,.int .i64 0] 26 (0,0)) (by (with_reducible repeat (first|refine kN ?_ _|refine kD ?_|refine kA ?_ _));exact BK118.out) NB118_0.out (by simp));have n4_:=Am (KeepBut.trans (by repeat (first|(with_reducible first|exact HK.out|apply KeepBut.set_|apply keep_drewN|apply keep_drew|apply keep_alloc|refine keep_far ?_ GW117.out _|refine keep_far ?_ GW118.out _)|exact HK.out)) hk (.inl rfl));have n5_:=Am (hb);have n6_:=Am (hi);clear HO_119000;clear HO_119001;clear BK117;clear BK118;clear HK;clear HB;clear HI0;have HO_119000:=n0_;have HO_119001:=n1_;have BK117:=n2_;have BK118:=n3_;have HK:=n4_;have HB:=n5_;have HI0:=n6_;clear n0_ n1_ n2_ n3_ n4_ n5_ n6_;(try clear hb);(try clear hb2);(try clear hk);(try clear hi);have hcz49_0 : w48.cell? ⟨gb118,0,none⟩ = some (u119000):=(kC BK118.out 0).trans rfl;have hcz49_1 : w48.cell? ⟨gb118,1,none⟩ = some (u119001):=(kC BK118.out 1).trans rfl;have hcz49_2 : w48.cell? ⟨gb118,2,none⟩ = some (.int .i64 t147):=(kC BK118.out 2).trans rfl;have hcz49_3 : w48.cell? ⟨gb118,3,none⟩ = some (.int .i64 0):=(kC BK118.out 3).trans rfl;have hcz49_4 : w48.cell? ⟨gb118,4,none⟩ = some (.int .i64 0):=(kC BK118.out 4).trans rfl;have hfz49_0:=kF BK118.out 0;have hfz49_1:=kF BK118.out 1;have hfz49_2:=kF BK118.out 2;have hfz49_3:=kF BK118.out 3;have hfz49_4:=kF BK118.out 4)|((with_reducible refine gate_callee (f:=31) rfl ?_);refine goesL_ (some 85) rfl rfl Try.func31 (by kernel_rfl) rfl #[.pointer (some ⟨g,0,none⟩),.int .i64 4] rfl (by (try simp only [List.map_toArray,List.map_cons,List.map_nil]);first|done|rfl|(simp only [List.length_drop,List.length_take];rfl)) ?_;(with_reducible refine (spec_l6Cur_pick.calls g s0_0 t154 t155 4 t156 t157 t158 w0 _ ?side1 ?side2 A42.out).mono ?_);(case side1 => repeat (first|(with_reducible first|exact HI0.out|apply IsS59.alloc|apply IsS59.drewN|apply IsS59.drew|apply IsS59.set_1|apply IsS59.set_2|refine IsS59.far ?_ NB0_117.out _|refine IsS59.far ?_ NB0_118.out _)|exact HI0.out));(case side2 => repeat (first|(with_reducible first|exact HB.out|apply bA|apply bN|apply bD|refine bS ?_ (IsS59.ge HI0.out)|refine bS ?_ GE117.out|refine bS ?_ GE118.out)|exact HB.out));rintro e w50 ⟨rfl,hi,hb,hk⟩;refine ⟨_,rfl,?_⟩;have n0_:=Am (Kd.R_mono (Kd.R_keep (IsS59.apart (show IsS59 w0 _ g s0_0 t154 t155 from by repeat (first|(with_reducible first|exact HI0.out|apply IsS59.alloc|apply IsS59.drewN|apply IsS59.drew|apply IsS59.set_1|apply IsS59.set_2|refine IsS59.far ?_ NB0_117.out _|refine IsS59.far ?_ NB0_118.out _)|exact HI0.out)) (by (with_reducible repeat (first|apply Kd.R_alloc|apply Kd.R_drewN|apply Kd.R_drew));exact (Kd.R_mono (Kd.R_far (p:=⟨gb118,3,none⟩) (Kd.R_types HO_119000.out BK118.out (by decide)) (fun _ hk => hk.2) (.int .i64 (wrap64 (x6_1 - (wrap64 (Int.tdiv (wrap64 (t150 * t153)) 2)))))) (fun _ h_ => h_.1))) (by decide)) hk (fun _ h => h.2)) (fun _ h => h.1));have n1_:=Am (Kd.R_mono (Kd.R_keep (IsS59.apart (show IsS59 w0 _ g s0_0 t154 t155 from by repeat (first|(with_reducible first|exact HI0.out|apply IsS59.alloc|apply IsS59.drewN|apply IsS59.drew|apply IsS59.set_1|apply IsS59.set_2|refine IsS59.far ?_ NB0_117.out _|refine IsS59.far ?_ NB0_118.out _)|exact HI0.out)) (by (with_reducible repeat (first|apply Kd.R_alloc|apply Kd.R_drewN|apply Kd.R_drew));exact (Kd.R_mono (Kd.R_far (p:=⟨gb118,3,none⟩) (Kd.R_types HO_119001.out BK118.out (by decide)) (fun _ hk => hk.2) (.int .i64 (wrap64 (x6_1 - (wrap64 (Int.tdiv (wrap64 (t150 * t153)) 2)))))) (fun _ h_ => h_.1))) (by decide)) hk (fun _ h => h.2)) (fun _ h => h.1));have n2_:=Am (KeepBut.blk hk (g':=gb117) (o:=.cells #[.slice none 0 0,.slice none 0 0,.int .i64 0,.int .i64 0,.int .i64 0] 26 (0,0)) (by (with_reducible repeat (first|refine kN ?_ _|refine kD ?_|refine kA ?_ _));refine blk_far ?_ NB117_118.out _;(with_reducible repeat (first|refine kN ?_ _|refine kD ?_|refine kA ?_ _));exact BK117.out) NB117_0.out (by simp));have n3_:=Am (KeepBut.blk hk (g':=gb118) (o:=.cells #[u119000,u119001,.int .i64 t147,.int .i64 (wrap64 (x6_1 - (wrap64 (Int.tdiv (wrap64 (t150 * t153)) 2)))),.int .i64 0] 26 (0,0)) (by (with_reducible repeat (first|refine kN ?_ _|refine kD ?_|refine kA ?_ _));refine blk_put (cs:=#[u119000,u119001,.int .i64 t147,.int .i64 0,.int .i64 0]) ?_ 3 _ rfl;(with_reducible repeat (first|refine kN ?_ _|refine kD ?_|refine kA ?_ _));exact BK118.out) NB118_0.out (by simp));have n4_:=Am (KeepBut.trans (by repeat (first|(with_reducible first|exact HK.out|apply KeepBut.set_|apply keep_drewN|apply keep_drew|apply keep_alloc|refine keep_far ?_ GW117.out _|refine keep_far ?_ GW118.out _)|exact HK.out)) hk (.inl rfl));have n5_:=Am (hb);have n6_:=Am (hi);clear HO_119000;clear HO_119001;clear BK117;clear BK118;clear HK;clear HB;clear HI0;have HO_119000:=n0_;have HO_119001:=n1_;have BK117:=n2_;have BK118:=n3_;have HK:=n4_;have HB:=n5_;have HI0:=n6_;clear n0_ n1_ n2_ n3_ n4_ n5_ n6_;(try clear hb);(try clear hb2);(try clear hk);(try clear hi);have hcz51_0 : w50.cell? ⟨gb118,0,none⟩ = some (u119000):=(kC BK118.out 0).trans rfl;have hcz51_1 : w50.cell? ⟨gb118,1,none⟩ = some (u119001):=(kC BK118.out 1).trans rfl;have hcz51_2 : w50.cell? ⟨gb118,2,none⟩ = some (.int .i64 t147):=(kC BK118.out 2).trans rfl;have hcz51_3 : w50.cell? ⟨gb118,3,none⟩ = some (.int .i64 (wrap64 (x6_1 - (wrap64 (Int.tdiv (wrap64 (t150 * t153)) 2))))):=(kC BK118.out 3).trans rfl;have hcz51_4 : w50.cell? ⟨gb118,4,none⟩ = some (.int .i64 0):=(kC BK118.out 4).trans rfl;have hfz51_0:=kF BK118.out 0;have hfz51_1:=kF BK118.out 1;have hfz51_2:=kF BK118.out 2;have hfz51_3:=kF BK118.out 3;have hfz51_4:=kF BK118.out 4;obtain ⟨Ao52,co52,eo52⟩:=Kd.R_slice HO_119000.out;subst eo52;have hnb53:=NB117_0.out;have hnc53:=NB0_117.out;have hcz54_0 : w50.cell? ⟨gb117,0,none⟩ = some (.slice none 0 0):=(kC BK117.out 0).trans rfl;have hcz54_1 : w50.cell? ⟨gb117,1,none⟩ = some (.slice none 0 0):=(kC BK117.out 1).trans rfl;have hcz54_2 : w50.cell? ⟨gb117,2,none⟩ = some (.int .i64 0):=(kC BK117.out 2).trans rfl;have hcz54_3 : w50.cell? ⟨gb117,3,none⟩ = some (.int .i64 0):=(kC BK117.out 3).trans rfl;have hcz54_4 : w50.cell? ⟨gb117,4,none⟩ = some (.int .i64 0):=(kC BK117.out 4).trans rfl;have hfz54_0:=kF BK117.out 0;have hfz54_1:=kF BK117.out 1;have hfz54_2:=kF BK117.out 2;have hfz54_3:=kF BK117.out 3;have hfz54_4:=kF BK117.out 4;obtain ⟨Ao55,co55,eo55⟩:=Kd.R_slice HO_119001.out;subst eo55))
       refine bodyPost_ret (results_cell_row rfl _ _ gb117 26 #[.slice Ao52 x119000_1.length co52,.slice Ao55 x119001_2.length co55,.int .i64 t147,.int .i64 (wrap64 (x6_1 - (wrap64 (Int.tdiv (wrap64 (t150 * t153)) 2)))),.int .i64 t156] (0,0) _ rfl (by (with_reducible repeat (first|refine kN ?_ _|refine kD ?_|refine kA ?_ _));refine blk_put (cs:=#[.slice Ao52 x119000_1.length co52,.slice Ao55 x119001_2.length co55,.int .i64 t147,.int .i64 (wrap64 (x6_1 - (wrap64 (Int.tdiv (wrap64 (t150 * t153)) 2)))),.int .i64 0]) ?_ 4 _ rfl;(with_reducible repeat (first|refine kN ?_ _|refine kD ?_|refine kA ?_ _));refine blk_put (cs:=#[.slice Ao52 x119000_1.length co52,.slice Ao55 x119001_2.length co55,.int .i64 t147,.int .i64 0,.int .i64 0]) ?_ 3 _ rfl;(with_reducible repeat (first|refine kN ?_ _|refine kD ?_|refine kA ?_ _));refine blk_put (cs:=#[.slice Ao52 x119000_1.length co52,.slice Ao55 x119001_2.length co55,.int .i64 0,.int .i64 0,.int .i64 0]) ?_ 2 _ rfl;(with_reducible repeat (first|refine kN ?_ _|refine kD ?_|refine kA ?_ _));refine blk_put (cs:=#[.slice Ao52 x119000_1.length co52,.slice none 0 0,.int .i64 0,.int .i64 0,.int .i64 0]) ?_ 1 _ rfl;(with_reducible repeat (first|refine kN ?_ _|refine kD ?_|refine kA ?_ _));refine blk_put (cs:=#[.slice none 0 0,.slice none 0 0,.int .i64 0,.int .i64 0,.int .i64 0]) ?_ 0 _ rfl;(with_reducible repeat (first|refine kN ?_ _|refine kD ?_|refine kA ?_ _));refine blk_far ?_ NB117_118.out _;(with_reducible repeat (first|refine kN ?_ _|refine kD ?_|refine kA ?_ _));exact BK117.out) Try.underlying26 rfl (by kernel_rfl)) rfl ?_
       exact ⟨_,_,by first|rfl|(simp [errW_none,errW_some] <;> rfl)|(simp [*,errW_none,errW_some] <;> rfl),by (with_reducible repeat (first|apply Kd.R_alloc|apply Kd.R_drewN|apply Kd.R_drew));exact Kd.R_mono (Kd.R_far (p:=⟨gb117,4,none⟩) (Kd.R_far (p:=⟨gb117,3,none⟩) (Kd.R_far (p:=⟨gb117,2,none⟩) (Kd.R_far (p:=⟨gb117,1,none⟩) (Kd.R_far (p:=⟨gb117,0,none⟩) (Kd.R_far (p:=⟨gb118,4,none⟩) (Kd.R_types (Kd.R_types HO_119000.out BK118.out (by decide)) BK117.out (by decide)) (fun _ hk => hk.1.2) (.int .i64 t156)) (fun _ hk => hk.2) (.slice Ao52 x119000_1.length co52)) (fun _ hk => hk.2) (.slice Ao55 x119001_2.length co55)) (fun _ hk => hk.2) (.int .i64 t147)) (fun _ hk => hk.2) (.int .i64 (wrap64 (x6_1 - (wrap64 (Int.tdiv (wrap64 (t150 * t153)) 2)))))) (fun _ hk => hk.2) (.int .i64 t156)) (fun _ hk => trivial),by (with_reducible repeat (first|apply Kd.R_alloc|apply Kd.R_drewN|apply Kd.R_drew));exact Kd.R_mono (Kd.R_far (p:=⟨gb117,4,none⟩) (Kd.R_far (p:=⟨gb117,3,none⟩) (Kd.R_far (p:=⟨gb117,2,none⟩) (Kd.R_far (p:=⟨gb117,1,none⟩) (Kd.R_far (p:=⟨gb117,0,none⟩) (Kd.R_far (p:=⟨gb118,4,none⟩) (Kd.R_types (Kd.R_types HO_119001.out BK118.out (by decide)) BK117.out (by decide)) (fun _ hk => hk.1.2) (.int .i64 t156)) (fun _ hk => hk.2) (.slice Ao52 x119000_1.length co52)) (fun _ hk => hk.2) (.slice Ao55 x119001_2.length co55)) (fun _ hk => hk.2) (.int .i64 t147)) (fun _ hk => hk.2) (.int .i64 (wrap64 (x6_1 - (wrap64 (Int.tdiv (wrap64 (t150 * t153)) 2)))))) (fun _ hk => hk.2) (.int .i64 t156)) (fun _ hk => trivial),by repeat (first|(with_reducible first|exact HI0.out|apply IsS59.alloc|apply IsS59.drewN|apply IsS59.drew|apply IsS59.set_1|apply IsS59.set_2|refine IsS59.far ?_ NB0_117.out _|refine IsS59.far ?_ NB0_118.out _)|exact HI0.out),by repeat (first|(with_reducible first|exact HB.out|apply bA|apply bN|apply bD|refine bS ?_ (IsS59.ge HI0.out)|refine bS ?_ GE117.out|refine bS ?_ GE118.out)|exact HB.out),by repeat (first|(with_reducible first|exact HK.out|apply KeepBut.set_|apply keep_drewN|apply keep_drew|apply keep_alloc|refine keep_far ?_ GW117.out _|refine keep_far ?_ GW118.out _)|exact HK.out)⟩

end Go.Proofs.Ytanjbdgmnecacaa.PA
