-- Written by a program of this session (wip/print/myprint.py) over the kit's print, with contracts of its own; not a text of print.sh's.
import Derived.Test.YtanjbdgmnecacaaPAx0
import Derived.Test.YtanjbdgmnecacaaPAx6
import Derived.Test.YtanjbdgmnecacaaPAx20
import Derived.Test.YtanjbdgmnecacaaPAx22
import Derived.Test.YtanjbdgmnecacaaPAx24
namespace Go.Proofs.Ytanjbdgmnecacaa.PA
open Go.RowKit Go.Proofs.YtanjbdgmnecacaaW.PrintWords Go.Proofs.YtanjbdgmnecacaaW.PrintLast Go.Proofs.YtanjbdgmnecacaaW.PrintMore
attribute [local go_sem] max2_int min2_int max_two min_two   -- for this text's walks alone
set_option linter.unusedVariables false
set_option linter.unusedSimpArgs false

/-! ### laws_FnCurve: function 7 -/
def laws_FnCurve.l0 : Nat → Int → List (S52) → Int → Int → List (S39) → List (S45) → Int → Int → Int → Option (Bool)
 | 0, _, _, _, _, _, _, _, _, _ => none
 | k + 1, x6, x38, x39, x40, x488000, x488001, x488002, x488003, x488004 => if x40 < x39 then (if 0 ≤ x40 then (if x40 < (x38.length : Int) then (if ((rd_T52 x38 x40).f0) = (wrap64 (x40 * x6)) then ((impl_MostNow.f k x488000 x488001 x488002 x488003 x488004 ((rd_T52 x38 x40).f0)).bind fun t495 => (if ((rd_T52 x38 x40).f1) = t495 then ((spec_MostNow.f k x488000 x488001 x488002 x488003 x488004 ((rd_T52 x38 x40).f0)).bind fun t496 => (if ((rd_T52 x38 x40).f1) = t496 then (laws_FnCurve.l0 k x6 x38 x39 (wrap64 (x40 + 1)) x488000 x488001 x488002 x488003 x488004) else (some false))) else (some false))) else (some false)) else (none)) else (none)) else ((impl_MostNow.f k x488000 x488001 x488002 x488003 x488004 x488003).bind fun t492 => (some (t492 == 0)))
def laws_FnCurve.f (k : Nat) (l0 : List Int) : Option (Bool) := if (l0.length : Int) > 1048576 then (some true) else ((spec_Profiles.f k l0).bind fun bt474 => ((laws_wByte.f l0 0).bind fun t488 => (if (wrap64 (1 + (Int.tmod t488 20))) = 0 then (none) else ((impl_Curve.f k bt474.1 bt474.2.1 bt474.2.2.1 bt474.2.2.2.1 bt474.2.2.2.2.1 (wrap64 (1 + (wrap64 (Int.tdiv bt474.2.2.2.1 (wrap64 (1 + (Int.tmod t488 20)))))))).bind fun t489 => (if (wrap64 (1 + (wrap64 (Int.tdiv bt474.2.2.2.1 (wrap64 (1 + (Int.tmod t488 20))))))) = 0 then (none) else (if (t489.length : Int) = (wrap64 ((wrap64 (Int.tdiv bt474.2.2.2.1 (wrap64 (1 + (wrap64 (Int.tdiv bt474.2.2.2.1 (wrap64 (1 + (Int.tmod t488 20))))))))) + 1)) then (laws_FnCurve.l0 k (wrap64 (1 + (wrap64 (Int.tdiv bt474.2.2.2.1 (wrap64 (1 + (Int.tmod t488 20))))))) t489 (t489.length : Int) 0 bt474.1 bt474.2.1 bt474.2.2.1 bt474.2.2.2.1 bt474.2.2.2.2.1) else (some false)))))))
theorem laws_FnCurve.mono_l : ∀ k, (∀ y0 y1 y2 y3 y4 y5 y6 y7 y8, LeO (laws_FnCurve.l0 k y0 y1 y2 y3 y4 y5 y6 y7 y8) (laws_FnCurve.l0 (k + 1) y0 y1 y2 y3 y4 y5 y6 y7 y8))
 | 0 => fun _ _ _ _ _ _ _ _ _ r h => by simp [laws_FnCurve.l0] at h
 | k + 1 => by
  have ih0 := laws_FnCurve.mono_l k
  ·intro y0 y1 y2 y3 y4 y5 y6 y7 y8
   unfold laws_FnCurve.l0
   repeat' first
   | (with_reducible exact ih0 _ _ _ _ _ _ _ _ _)
   | (with_reducible exact impl_Curve.mono _ _ _ _ _ _ _)
   | (with_reducible exact impl_MostNow.mono _ _ _ _ _ _ _)
   | (with_reducible exact spec_MostNow.mono _ _ _ _ _ _ _)
   | (with_reducible exact spec_Profiles.mono _ _)
   | (with_reducible exact LeO.refl _)
   | (with_reducible exact LeO.none _)
   | (with_reducible refine LeO.ite ?_ ?_)
   | (with_reducible refine LeO.bind ?_ (fun _ => ?_))
   | exact ih0 _ _ _ _ _ _ _ _ _
   | exact impl_Curve.mono _ _ _ _ _ _ _
   | exact impl_MostNow.mono _ _ _ _ _ _ _
   | exact spec_MostNow.mono _ _ _ _ _ _ _
   | exact spec_Profiles.mono _ _
   | exact LeO.none _
   | refine LeO.ite ?_ ?_
   | refine LeO.bind ?_ (fun _ => ?_)
theorem laws_FnCurve.mono : ∀ a0 k, LeO (laws_FnCurve.f k a0) (laws_FnCurve.f (k + 1) a0) := by
 intro a0 k
 have ih0 := laws_FnCurve.mono_l k
 unfold laws_FnCurve.f
 repeat' first
   | (with_reducible exact ih0 _ _ _ _ _ _ _ _ _)
   | (with_reducible exact impl_Curve.mono _ _ _ _ _ _ _)
   | (with_reducible exact impl_MostNow.mono _ _ _ _ _ _ _)
   | (with_reducible exact spec_MostNow.mono _ _ _ _ _ _ _)
   | (with_reducible exact spec_Profiles.mono _ _)
   | (with_reducible exact LeO.refl _)
   | (with_reducible exact LeO.none _)
   | (with_reducible refine LeO.ite ?_ ?_)
   | (with_reducible refine LeO.bind ?_ (fun _ => ?_))
   | exact ih0 _ _ _ _ _ _ _ _ _
   | exact impl_Curve.mono _ _ _ _ _ _ _
   | exact impl_MostNow.mono _ _ _ _ _ _ _
   | exact spec_MostNow.mono _ _ _ _ _ _ _
   | exact spec_Profiles.mono _ _
   | exact LeO.none _
   | refine LeO.ite ?_ ?_
   | refine LeO.bind ?_ (fun _ => ?_)
def laws_FnCurve.T4 : Bool × List (List Nat × List Nat) := (true, [([], []), ([0], [0]), ([], []), ([2], [2]), ([3], [3]), ([4], [4]), ([1, 5], [1, 5]), ([6], [6]), ([7, 3, 0, 1, 2, 3, 4, 5, 6, 7], [7])])
def laws_FnCurve.B4 : List Nat := [0, 1, 0, 4, 12, 28, 63, 127, 255]
theorem laws_FnCurve.tab4 : rtab .any (opsOf Try.f7 4) = laws_FnCurve.T4 := by kernel_rfl
theorem laws_FnCurve.bits4 : waitsOk laws_FnCurve.T4.2 laws_FnCurve.B4 = true := by kernel_rfl
def laws_FnCurve.T11 : Bool × List (List Nat × List Nat) := (true, [([], []), ([0], [0]), ([], []), ([], []), ([2, 3], [2, 3]), ([1, 4], [1, 4]), ([5], [5]), ([6], [6]), ([7, 6], [6, 7]), ([6], [6]), ([6], [6]), ([10, 6], [6, 10]), ([9, 11, 6, 6], [6, 9, 11]), ([8, 12, 6], [6, 8, 12]), ([6, 13], [6, 13]), ([14, 12], [14]), ([15], [15]), ([16, 15], [15, 16]), ([15], [15]), ([15], [15]), ([19, 15], [15, 19]), ([18, 20, 15, 15], [15, 18, 20]), ([17, 21, 15], [15, 17, 21]), ([15, 22], [15, 22])])
def laws_FnCurve.B11 : List Nat := [0, 1, 0, 0, 12, 31, 63, 127, 255, 127, 127, 1151, 3711, 8191, 16383, 32767, 65535, 131071, 65535, 65535, 589823, 1900543, 4194303, 8388607]
theorem laws_FnCurve.tab11 : rtab .any (opsOf Try.f7 11) = laws_FnCurve.T11 := by kernel_rfl
theorem laws_FnCurve.bits11 : waitsOk laws_FnCurve.T11.2 laws_FnCurve.B11 = true := by kernel_rfl
set_option maxHeartbeats 8000000 in
set_option maxRecDepth 100000 in
theorem laws_FnCurve.calls (k : Nat) (A0 : Option Addr) (c0 : Nat) (l0 : List Int) (r : Bool) (w : World) (hr0 : Kd.C (Kd.int .u8) w A0 l0.length l0) (hc0 : l0.length ≤ c0) (hrt : Aside0 (r = true)) (h : laws_FnCurve.f k l0 = some r) :
  Calls Try.prog 7 #[.slice A0 l0.length c0] w fun e w' => e = .returned (.bool r) ∧ Below w.heap.size w w' := by
 have hu26 := Try.underlying26
 have hu52 := Try.underlying52
 have HR0 := Aside0.mk hr0
 have HC0 := Aside0.mk hc0
 clear hr0 hc0
 have HB := Aside0.mk (Below.refl w.heap.size w)
 have H : (if (l0.length : Int) > 1048576 then (some true) else ((spec_Profiles.f k l0).bind fun bt474 => ((laws_wByte.f l0 0).bind fun t488 => (if (wrap64 (1 + (Int.tmod t488 20))) = 0 then (none) else ((impl_Curve.f k bt474.1 bt474.2.1 bt474.2.2.1 bt474.2.2.2.1 bt474.2.2.2.2.1 (wrap64 (1 + (wrap64 (Int.tdiv bt474.2.2.2.1 (wrap64 (1 + (Int.tmod t488 20)))))))).bind fun t489 => (if (wrap64 (1 + (wrap64 (Int.tdiv bt474.2.2.2.1 (wrap64 (1 + (Int.tmod t488 20))))))) = 0 then (none) else (if (t489.length : Int) = (wrap64 ((wrap64 (Int.tdiv bt474.2.2.2.1 (wrap64 (1 + (wrap64 (Int.tdiv bt474.2.2.2.1 (wrap64 (1 + (Int.tmod t488 20))))))))) + 1)) then (laws_FnCurve.l0 k (wrap64 (1 + (wrap64 (Int.tdiv bt474.2.2.2.1 (wrap64 (1 + (Int.tmod t488 20))))))) t489 (t489.length : Int) 0 bt474.1 bt474.2.1 bt474.2.2.1 bt474.2.2.2.1 bt474.2.2.2.2.1) else (some false)))))))) = some r := h
 clear h
 by_cases c2 : (l0.length : Int) > 1048576
 ·rw [if_pos c2] at H
  have c2b0 : decide (1048576 < (l0.length : Int)) = true := decide_eq_true c2
  have c2b1 : decide (1048576 < l0.length) = true := decide_eq_true (by omega)
  clear c2
  obtain rfl := Option.some.inj H
  go_enter Try.func7, Try.ntmps7
  go_wp2
  go_ret
  exact ⟨by first | rfl | (simp [errW_none, errW_some] <;> rfl) | (simp [*, errW_none, errW_some] <;> rfl), by repeat (first | (with_reducible first | exact HB.out | apply below_alloc | apply pw_below_drewN | apply below_drew1) | exact HB.out)⟩
 ·rw [if_neg c2] at H
  have c2b0 : decide (1048576 < (l0.length : Int)) = false := decide_eq_false c2
  have c2b1 : decide (1048576 < l0.length) = false := decide_eq_false (by omega)
  clear c2
  replace H := Option.bind_eq_some_iff.mp H
  obtain ⟨⟨t474, t477, t480, t481, t482, t483, t484⟩, A30, H⟩ := H
  replace H : ((laws_wByte.f l0 0).bind fun t488 => (if (wrap64 (1 + (Int.tmod t488 20))) = 0 then (none) else ((impl_Curve.f k t474 t477 t480 t481 t482 (wrap64 (1 + (wrap64 (Int.tdiv t481 (wrap64 (1 + (Int.tmod t488 20)))))))).bind fun t489 => (if (wrap64 (1 + (wrap64 (Int.tdiv t481 (wrap64 (1 + (Int.tmod t488 20))))))) = 0 then (none) else (if (t489.length : Int) = (wrap64 ((wrap64 (Int.tdiv t481 (wrap64 (1 + (wrap64 (Int.tdiv t481 (wrap64 (1 + (Int.tmod t488 20))))))))) + 1)) then (laws_FnCurve.l0 k (wrap64 (1 + (wrap64 (Int.tdiv t481 (wrap64 (1 + (Int.tmod t488 20))))))) t489 (t489.length : Int) 0 t474 t477 t480 t481 t482) else (some false)))))) = some r := H
  have A3 := Aside0.mk A30
  clear A30
  replace H := Option.bind_eq_some_iff.mp H
  obtain ⟨t488, A40, H⟩ := H
  replace H : (if (wrap64 (1 + (Int.tmod t488 20))) = 0 then (none) else ((impl_Curve.f k t474 t477 t480 t481 t482 (wrap64 (1 + (wrap64 (Int.tdiv t481 (wrap64 (1 + (Int.tmod t488 20)))))))).bind fun t489 => (if (wrap64 (1 + (wrap64 (Int.tdiv t481 (wrap64 (1 + (Int.tmod t488 20))))))) = 0 then (none) else (if (t489.length : Int) = (wrap64 ((wrap64 (Int.tdiv t481 (wrap64 (1 + (wrap64 (Int.tdiv t481 (wrap64 (1 + (Int.tmod t488 20))))))))) + 1)) then (laws_FnCurve.l0 k (wrap64 (1 + (wrap64 (Int.tdiv t481 (wrap64 (1 + (Int.tmod t488 20))))))) t489 (t489.length : Int) 0 t474 t477 t480 t481 t482) else (some false))))) = some r := H
  have A4 := Aside0.mk A40
  clear A40
  by_cases c5 : (wrap64 (1 + (Int.tmod t488 20))) = 0
  ·rw [if_pos c5] at H
   exact absurd H (by simp)
  ·rw [if_neg c5] at H
   have c5b0 : ((wrap64 (1 + (Int.tmod t488 20))) == 0) = false := beq_eq_false_iff_ne.mpr c5
   have c5b1 : ((wrap64 (1 + (Int.tmod t488 20))) != 0) = true := bne_iff_ne.mpr c5
   replace H := Option.bind_eq_some_iff.mp H
   obtain ⟨t489, A60, H⟩ := H
   replace H : (if (wrap64 (1 + (wrap64 (Int.tdiv t481 (wrap64 (1 + (Int.tmod t488 20))))))) = 0 then (none) else (if (t489.length : Int) = (wrap64 ((wrap64 (Int.tdiv t481 (wrap64 (1 + (wrap64 (Int.tdiv t481 (wrap64 (1 + (Int.tmod t488 20))))))))) + 1)) then (laws_FnCurve.l0 k (wrap64 (1 + (wrap64 (Int.tdiv t481 (wrap64 (1 + (Int.tmod t488 20))))))) t489 (t489.length : Int) 0 t474 t477 t480 t481 t482) else (some false))) = some r := H
   have A6 := Aside0.mk A60
   clear A60
   by_cases c7 : (wrap64 (1 + (wrap64 (Int.tdiv t481 (wrap64 (1 + (Int.tmod t488 20))))))) = 0
   ·rw [if_pos c7] at H
    exact absurd H (by simp)
   ·rw [if_neg c7] at H
    have c7b0 : ((wrap64 (1 + (wrap64 (Int.tdiv t481 (wrap64 (1 + (Int.tmod t488 20))))))) == 0) = false := beq_eq_false_iff_ne.mpr c7
    have c7b1 : ((wrap64 (1 + (wrap64 (Int.tdiv t481 (wrap64 (1 + (Int.tmod t488 20))))))) != 0) = true := bne_iff_ne.mpr c7
    by_cases c8 : (t489.length : Int) = (wrap64 ((wrap64 (Int.tdiv t481 (wrap64 (1 + (wrap64 (Int.tdiv t481 (wrap64 (1 + (Int.tmod t488 20))))))))) + 1))
    ·rw [if_pos c8] at H
     have c8b0 : ((t489.length : Int) == (wrap64 ((wrap64 (Int.tdiv t481 (wrap64 (1 + (wrap64 (Int.tdiv t481 (wrap64 (1 + (Int.tmod t488 20))))))))) + 1))) = true := beq_iff_eq.mpr c8
     have c8b1 : ((t489.length : Int) != (wrap64 ((wrap64 (Int.tdiv t481 (wrap64 (1 + (wrap64 (Int.tdiv t481 (wrap64 (1 + (Int.tmod t488 20))))))))) + 1))) = false := bne_eq_false_iff_eq.mpr c8
     clear c8
     have H' := Aside0.mk H
     clear H
     go_enter Try.func7, Try.ntmps7
     try go_wp2_with (first | ((with_reducible refine gate_callee (f := 9) rfl ?_); refine goesL_ (some 15) rfl rfl Try.func9 (by kernel_rfl) rfl #[.slice A0 l0.length c0] rfl (by (try simp only [List.map_toArray, List.map_cons, List.map_nil]); first | done | rfl | (simp only [List.length_drop, List.length_take]; rfl)) ?_; (with_reducible refine (spec_Profiles.calls k _ _ l0 t474 t477 t480 t481 t482 t483 t484 _ ?side1 ?side2 A3.out).mono ?_); (case side1 => repeat (first | exact HR0.out | (with_reducible refine Kd.C_alloc ?_ _) | (with_reducible refine Kd.C_drewN ?_ _) | (with_reducible refine Kd.C_drew ?_))); (case side2 => exact HC0.out); rintro e w9 ⟨v475, v478, v485, rfl, ho0, ho1, ho2, hb⟩; refine ⟨_, rfl, ?_⟩; have n0_ := Aside0.mk (Kd.R_lower ho0 (below_size (by repeat (first | (with_reducible first | exact HB.out | apply below_alloc | apply pw_below_drewN | apply below_drew1) | exact HB.out)))); have n1_ := Aside0.mk (Kd.R_lower ho1 (below_size (by repeat (first | (with_reducible first | exact HB.out | apply below_alloc | apply pw_below_drewN | apply below_drew1) | exact HB.out)))); have n2_ := Aside0.mk (Kd.R_lower ho2 (below_size (by repeat (first | (with_reducible first | exact HB.out | apply below_alloc | apply pw_below_drewN | apply below_drew1) | exact HB.out)))); have n3_ := Aside0.mk (below_step (by repeat (first | (with_reducible first | exact HB.out | apply below_alloc | apply pw_below_drewN | apply below_drew1) | exact HB.out)) hb); clear HB; have HO476 := n0_; have HO479 := n1_; have HO486 := n2_; have HB := n3_; clear n0_ n1_ n2_ n3_; (try clear hb); (try clear hb2); (try clear hk); (try clear hi); (try clear ho0); (try clear ho1); (try clear ho2)) | ((with_reducible refine gate_dst (N := 3) rfl ?_); refine box_event ?hg (N := 3) ?hd (cs := #[.slice none 0 0, .slice none 0 0, .int .i64 0, .int .i64 0, .int .i64 0]) (t := 26) ?hr ?_; (case hd => rfl); (case hg => rfl); (case hr => first | (go_simp; done) | (go_simp; rfl)); intro gb487 hg w10 hbox hb; have n0_ := Aside0.mk (Kd.R_below (by (with_reducible repeat (first | apply Kd.R_alloc | apply Kd.R_drewN | apply Kd.R_drew)); exact HO476.out) hb); have n1_ := Aside0.mk (Kd.R_below (by (with_reducible repeat (first | apply Kd.R_alloc | apply Kd.R_drewN | apply Kd.R_drew)); exact HO479.out) hb); have n2_ := Aside0.mk (Kd.R_below (by (with_reducible repeat (first | apply Kd.R_alloc | apply Kd.R_drewN | apply Kd.R_drew)); exact HO486.out) hb); have n3_ := Aside0.mk (below_step (by repeat (first | (with_reducible first | exact HB.out | apply below_alloc | apply pw_below_drewN | apply below_drew1) | exact HB.out)) hb); have n4_ := Aside0.mk (hbox); have n5_ := Aside0.mk ((by rw [hg]; exact (below_size (by repeat (first | (with_reducible first | exact HB.out | apply below_alloc | apply pw_below_drewN | apply below_drew1) | exact HB.out))) : w.heap.size ≤ gb487)); have n6_ := Aside0.mk ((by rw [hg]; exact (below_size (by repeat (first | (with_reducible first | exact HB.out | apply below_alloc | apply pw_below_drewN | apply below_drew1) | exact HB.out))) : w.heap.size ≤ gb487)); clear HO476; clear HO479; clear HO486; clear HB; have HO476 := n0_; have HO479 := n1_; have HO486 := n2_; have HB := n3_; have BK487 := n4_; have GW487 := n5_; have GE487 := n6_; clear n0_ n1_ n2_ n3_ n4_ n5_ n6_; clear hb hbox hg; obtain ⟨Ao11, co11, eo11⟩ := Kd.R_slice HO476.out; subst eo11; have hcz12_0 : w10.cell? ⟨gb487, 0, none⟩ = some (.slice none 0 0) := (blk_cell BK487.out 0).trans rfl; have hcz12_1 : w10.cell? ⟨gb487, 1, none⟩ = some (.slice none 0 0) := (blk_cell BK487.out 1).trans rfl; have hcz12_2 : w10.cell? ⟨gb487, 2, none⟩ = some (.int .i64 0) := (blk_cell BK487.out 2).trans rfl; have hcz12_3 : w10.cell? ⟨gb487, 3, none⟩ = some (.int .i64 0) := (blk_cell BK487.out 3).trans rfl; have hcz12_4 : w10.cell? ⟨gb487, 4, none⟩ = some (.int .i64 0) := (blk_cell BK487.out 4).trans rfl; have hfz12_0 := blk_frozen BK487.out 0; have hfz12_1 := blk_frozen BK487.out 1; have hfz12_2 := blk_frozen BK487.out 2; have hfz12_3 := blk_frozen BK487.out 3; have hfz12_4 := blk_frozen BK487.out 4; obtain ⟨Ao13, co13, eo13⟩ := Kd.R_slice HO479.out; subst eo13))
     have n0_ : Aside0 (Kd.R k39 39 (((((w10.setCell ⟨gb487, 0, none⟩ (.slice Ao11 t474.length co11)).setCell ⟨gb487, 1, none⟩ (.slice Ao13 t477.length co13)).setCell ⟨gb487, 2, none⟩ (.int .i64 t480)).setCell ⟨gb487, 3, none⟩ (.int .i64 t481)).setCell ⟨gb487, 4, none⟩ (.int .i64 t482)) w.heap.size (fun _ => True) (.slice Ao11 t474.length co11) t474) := ⟨by (with_reducible repeat (first | apply Kd.R_alloc | apply Kd.R_drewN | apply Kd.R_drew)); exact Kd.R_mono (Kd.R_far (p := ⟨gb487, 4, none⟩) (Kd.R_far (p := ⟨gb487, 3, none⟩) (Kd.R_far (p := ⟨gb487, 2, none⟩) (Kd.R_far (p := ⟨gb487, 1, none⟩) (Kd.R_far (p := ⟨gb487, 0, none⟩) (Kd.R_types HO476.out BK487.out (by decide)) (fun _ hk => hk.2) (.slice Ao11 t474.length co11)) (fun _ hk => hk.2) (.slice Ao13 t477.length co13)) (fun _ hk => hk.2) (.int .i64 t480)) (fun _ hk => hk.2) (.int .i64 t481)) (fun _ hk => hk.2) (.int .i64 t482)) (fun _ hk => trivial)⟩
     have n1_ : Aside0 (Kd.R k45 45 (((((w10.setCell ⟨gb487, 0, none⟩ (.slice Ao11 t474.length co11)).setCell ⟨gb487, 1, none⟩ (.slice Ao13 t477.length co13)).setCell ⟨gb487, 2, none⟩ (.int .i64 t480)).setCell ⟨gb487, 3, none⟩ (.int .i64 t481)).setCell ⟨gb487, 4, none⟩ (.int .i64 t482)) w.heap.size (fun _ => True) (.slice Ao13 t477.length co13) t477) := ⟨by (with_reducible repeat (first | apply Kd.R_alloc | apply Kd.R_drewN | apply Kd.R_drew)); exact Kd.R_mono (Kd.R_far (p := ⟨gb487, 4, none⟩) (Kd.R_far (p := ⟨gb487, 3, none⟩) (Kd.R_far (p := ⟨gb487, 2, none⟩) (Kd.R_far (p := ⟨gb487, 1, none⟩) (Kd.R_far (p := ⟨gb487, 0, none⟩) (Kd.R_types HO479.out BK487.out (by decide)) (fun _ hk => hk.2) (.slice Ao11 t474.length co11)) (fun _ hk => hk.2) (.slice Ao13 t477.length co13)) (fun _ hk => hk.2) (.int .i64 t480)) (fun _ hk => hk.2) (.int .i64 t481)) (fun _ hk => hk.2) (.int .i64 t482)) (fun _ hk => trivial)⟩
     have n2_ : Aside0 (Kd.R (Kd.int .i64) 3 (((((w10.setCell ⟨gb487, 0, none⟩ (.slice Ao11 t474.length co11)).setCell ⟨gb487, 1, none⟩ (.slice Ao13 t477.length co13)).setCell ⟨gb487, 2, none⟩ (.int .i64 t480)).setCell ⟨gb487, 3, none⟩ (.int .i64 t481)).setCell ⟨gb487, 4, none⟩ (.int .i64 t482)) w.heap.size (fun _ => True) v485 t484) := ⟨by (with_reducible repeat (first | apply Kd.R_alloc | apply Kd.R_drewN | apply Kd.R_drew)); exact Kd.R_mono (Kd.R_far (p := ⟨gb487, 4, none⟩) (Kd.R_far (p := ⟨gb487, 3, none⟩) (Kd.R_far (p := ⟨gb487, 2, none⟩) (Kd.R_far (p := ⟨gb487, 1, none⟩) (Kd.R_far (p := ⟨gb487, 0, none⟩) (Kd.R_types HO486.out BK487.out (by decide)) (fun _ hk => hk.2) (.slice Ao11 t474.length co11)) (fun _ hk => hk.2) (.slice Ao13 t477.length co13)) (fun _ hk => hk.2) (.int .i64 t480)) (fun _ hk => hk.2) (.int .i64 t481)) (fun _ hk => hk.2) (.int .i64 t482)) (fun _ hk => trivial)⟩
     have n3_ : Aside0 ((((((w10.setCell ⟨gb487, 0, none⟩ (.slice Ao11 t474.length co11)).setCell ⟨gb487, 1, none⟩ (.slice Ao13 t477.length co13)).setCell ⟨gb487, 2, none⟩ (.int .i64 t480)).setCell ⟨gb487, 3, none⟩ (.int .i64 t481)).setCell ⟨gb487, 4, none⟩ (.int .i64 t482)).heap[gb487]? = some (.cells #[.slice Ao11 t474.length co11, .slice Ao13 t477.length co13, .int .i64 t480, .int .i64 t481, .int .i64 t482] 26 (0, 0))) := ⟨by (with_reducible repeat (first | refine blk_drewN ?_ _ | refine blk_drew ?_ | refine blk_alloc ?_ _)); refine blk_put (cs := #[.slice Ao11 t474.length co11, .slice Ao13 t477.length co13, .int .i64 t480, .int .i64 t481, .int .i64 0]) ?_ 4 _ rfl; (with_reducible repeat (first | refine blk_drewN ?_ _ | refine blk_drew ?_ | refine blk_alloc ?_ _)); refine blk_put (cs := #[.slice Ao11 t474.length co11, .slice Ao13 t477.length co13, .int .i64 t480, .int .i64 0, .int .i64 0]) ?_ 3 _ rfl; (with_reducible repeat (first | refine blk_drewN ?_ _ | refine blk_drew ?_ | refine blk_alloc ?_ _)); refine blk_put (cs := #[.slice Ao11 t474.length co11, .slice Ao13 t477.length co13, .int .i64 0, .int .i64 0, .int .i64 0]) ?_ 2 _ rfl; (with_reducible repeat (first | refine blk_drewN ?_ _ | refine blk_drew ?_ | refine blk_alloc ?_ _)); refine blk_put (cs := #[.slice Ao11 t474.length co11, .slice none 0 0, .int .i64 0, .int .i64 0, .int .i64 0]) ?_ 1 _ rfl; (with_reducible repeat (first | refine blk_drewN ?_ _ | refine blk_drew ?_ | refine blk_alloc ?_ _)); refine blk_put (cs := #[.slice none 0 0, .slice none 0 0, .int .i64 0, .int .i64 0, .int .i64 0]) ?_ 0 _ rfl; (with_reducible repeat (first | refine blk_drewN ?_ _ | refine blk_drew ?_ | refine blk_alloc ?_ _)); exact BK487.out⟩
     have n4_ : Aside0 (Below w.heap.size w (((((w10.setCell ⟨gb487, 0, none⟩ (.slice Ao11 t474.length co11)).setCell ⟨gb487, 1, none⟩ (.slice Ao13 t477.length co13)).setCell ⟨gb487, 2, none⟩ (.int .i64 t480)).setCell ⟨gb487, 3, none⟩ (.int .i64 t481)).setCell ⟨gb487, 4, none⟩ (.int .i64 t482))) := ⟨by repeat (first | (with_reducible first | exact HB.out | apply below_alloc | apply pw_below_drewN | apply below_drew1 | refine below_set ?_ GE487.out) | exact HB.out)⟩
     (try clear HO476)
     (try clear HO479)
     (try clear HO486)
     (try clear BK487)
     (try clear HB)
     generalize (((((w10.setCell ⟨gb487, 0, none⟩ (.slice Ao11 t474.length co11)).setCell ⟨gb487, 1, none⟩ (.slice Ao13 t477.length co13)).setCell ⟨gb487, 2, none⟩ (.int .i64 t480)).setCell ⟨gb487, 3, none⟩ (.int .i64 t481)).setCell ⟨gb487, 4, none⟩ (.int .i64 t482)) = w14 at n0_ n1_ n2_ n3_ n4_ ⊢
     have HO476 := n0_
     have HO479 := n1_
     have HO486 := n2_
     have BK487 := n3_
     have HB := n4_
     clear n0_ n1_ n2_ n3_ n4_
     have n0_ := Aside0.mk (Kd.R_drew HO476.out)
     have n1_ := Aside0.mk (Kd.R_drew HO479.out)
     have n2_ := Aside0.mk (Kd.R_drew HO486.out)
     have n3_ := Aside0.mk (blk_drew BK487.out)
     have n4_ := Aside0.mk (below_drew1 HB.out)
     clear HO476
     clear HO479
     clear HO486
     clear BK487
     clear HB
     have HO476 := n0_
     have HO479 := n1_
     have HO486 := n2_
     have BK487 := n3_
     have HB := n4_
     clear n0_ n1_ n2_ n3_ n4_
     refine start_ (n := 9) (S := fun w' => w'.cell? ⟨gb487, 0, none⟩ = some (.slice Ao11 t474.length co11) ∧ w'.cell? ⟨gb487, 1, none⟩ = some (.slice Ao13 t477.length co13) ∧ w'.cell? ⟨gb487, 2, none⟩ = some (.int .i64 t480) ∧ w'.cell? ⟨gb487, 3, none⟩ = some (.int .i64 t481) ∧ w'.cell? ⟨gb487, 4, none⟩ = some (.int .i64 t482)) (ds := []) #[false, false, false, false, false, false, false, false, false] (by kernel_rfl) rfl rfl ⟨(blk_cell BK487.out 0).trans rfl, (blk_cell BK487.out 1).trans rfl, (blk_cell BK487.out 2).trans rfl, (blk_cell BK487.out 3).trans rfl, (blk_cell BK487.out 4).trans rfl⟩ (fun hHeld => ?_); refine with_tabW laws_FnCurve.tab4 laws_FnCurve.bits4 (fun HT_ HW_ => ?_)
     generalize w14.drew = w15 at HO476 HO479 HO486 BK487 HB hHeld ⊢
     refine pure_ (i := 0) (N := some 19) (v := ?_) (a' := ?_) #[true, false, false, false, false, false, false, false, false] rfl rfl (any_of HT_.out (by kernel_rfl)) (fun _ _ _ h => h) (Or.inl ⟨by rfl, ?_⟩) ?_ ?_
     rotate_left
     ·intro w'
      go_simp
      with_reducible rfl
     rotate_left
     ·simp only [Act.put, List.setIfInBounds_toArray, List.set_cons_zero, List.set_cons_succ, i64_w, i32_w]
      rfl
     refine pure_ (i := 2) (N := some 21) (v := ?_) (a' := ?_) #[true, false, true, false, false, false, false, false, false] rfl rfl (any_of HT_.out (by kernel_rfl)) (fun _ _ _ h => h) (Or.inl ⟨by rfl, ?_⟩) ?_ ?_
     rotate_left
     ·intro w'
      go_simp
      with_reducible rfl
     rotate_left
     ·simp only [Act.put, List.setIfInBounds_toArray, List.set_cons_zero, List.set_cons_succ, i64_w, i32_w]
      rfl
     refine take_ (i := 1) (N := some 20) (v := ?_) (a' := ?_) #[true, true, true, false, false, false, false, false, false] rfl rfl (take_ofW HT_.out HW_.out (by kernel_rfl)) (fun _ _ _ h => h) (Or.inl ⟨by rfl, ?_⟩) hHeld ?_ ?_
     rotate_left
     ·rintro w' ⟨s0, s1, s2, s3, s4⟩
      go_simp
      with_reducible rfl
     rotate_left
     ·simp only [Act.put, List.setIfInBounds_toArray, List.set_cons_zero, List.set_cons_succ, i64_w, i32_w]
      rfl
     refine one_ (i := 3) (N := some 22) #[true, true, true, true, false, false, false, false, false] rfl rfl (one_of HT_.out (by kernel_rfl)) (by decide) (fun K hK => ?_)
     refine goes_ Try.func15 (by kernel_rfl) rfl #[.slice A0 l0.length c0, .int .i64 0] (by rfl) rfl rfl (by (try simp only [List.map_toArray, List.map_cons, List.map_nil]); first | done | rfl | (simp only [List.length_drop, List.length_take]; rfl)) ?_
     with_reducible refine (laws_wByte.calls _ _ l0 0 t488 _ ?side1 ?side2 A4.out).mono ?_
     (case side1 => repeat (first | exact (Kd.C_below HR0.out HB.out) | (with_reducible refine Kd.C_alloc ?_ _) | (with_reducible refine Kd.C_drewN ?_ _) | (with_reducible refine Kd.C_drew ?_)))
     (case side2 => exact HC0.out)
     rintro e w' ⟨rfl, ⟨nd, rfl⟩⟩
     refine ⟨_, rfl, ?_⟩
     refine hK.out _ _ ⟨(blk_cell BK487.out 0).trans rfl, (blk_cell BK487.out 1).trans rfl, (blk_cell BK487.out 2).trans rfl, (blk_cell BK487.out 3).trans rfl, (blk_cell BK487.out 4).trans rfl⟩ (fun hHeld => ?_)
     clear hK K
     refine norm_ (a' := ?_) ?_ ?_
     rotate_left
     ·show Act.put _ (some 22) _ = _
      simp only [Act.put, List.setIfInBounds_toArray, List.set_cons_zero, List.set_cons_succ, i64_w, i32_w]
      rfl
     refine pure_ (i := 4) (N := some 23) (v := ?_) (a' := ?_) #[true, true, true, true, true, false, false, false, false] rfl rfl (any_of HT_.out (by kernel_rfl)) (fun _ _ _ h => h) (Or.inl ⟨by rfl, ?_⟩) ?_ ?_
     rotate_left
     ·intro w'
      go_simp
      with_reducible rfl
     rotate_left
     ·simp only [Act.put, List.setIfInBounds_toArray, List.set_cons_zero, List.set_cons_succ, i64_w, i32_w]
      rfl
     refine pure_ (i := 5) (N := some 24) (v := ?_) (a' := ?_) #[true, true, true, true, true, true, false, false, false] rfl rfl (any_of HT_.out (by kernel_rfl)) (fun _ _ _ h => h) (Or.inl ⟨by rfl, ?_⟩) ?_ ?_
     rotate_left
     ·intro w'
      go_simp
      with_reducible rfl
     rotate_left
     ·simp only [Act.put, List.setIfInBounds_toArray, List.set_cons_zero, List.set_cons_succ, i64_w, i32_w]
      rfl
     refine pure_ (i := 6) (N := some 25) (v := ?_) (a' := ?_) #[true, true, true, true, true, true, true, false, false] rfl rfl (any_of HT_.out (by kernel_rfl)) (fun _ _ _ h => h) (Or.inl ⟨by rfl, ?_⟩) ?_ ?_
     rotate_left
     ·intro w'
      go_simp
      with_reducible rfl
     rotate_left
     ·simp only [Act.put, List.setIfInBounds_toArray, List.set_cons_zero, List.set_cons_succ, i64_w, i32_w]
      rfl
     refine pure_ (i := 7) (N := some 26) (v := ?_) (a' := ?_) #[true, true, true, true, true, true, true, true, false] rfl rfl (any_of HT_.out (by kernel_rfl)) (fun _ _ _ h => h) (Or.inl ⟨by rfl, ?_⟩) ?_ ?_
     rotate_left
     ·intro w'
      go_simp
      with_reducible rfl
     rotate_left
     ·simp only [Act.put, List.setIfInBounds_toArray, List.set_cons_zero, List.set_cons_succ, i64_w, i32_w]
      rfl
     refine pure_ (i := 8) (N := some 6) (v := ?_) (a' := ?_) #[true, true, true, true, true, true, true, true, true] rfl rfl (any_of HT_.out (by kernel_rfl)) (fun _ _ _ h => h) (Or.inl ⟨by rfl, ?_⟩) ?_ ?_
     rotate_left
     ·intro w'
      go_simp
      with_reducible rfl
     rotate_left
     ·simp only [Act.put, List.setIfInBounds_toArray, List.set_cons_zero, List.set_cons_succ, i64_w, i32_w]
      rfl
     refine done_ (done_of HT_.out (by kernel_rfl)) ?_
     have hcz16_0 : w15.cell? ⟨gb487, 0, none⟩ = some (.slice Ao11 t474.length co11) := (blk_cell BK487.out 0).trans rfl
     have hcz16_1 : w15.cell? ⟨gb487, 1, none⟩ = some (.slice Ao13 t477.length co13) := (blk_cell BK487.out 1).trans rfl
     have hcz16_2 : w15.cell? ⟨gb487, 2, none⟩ = some (.int .i64 t480) := (blk_cell BK487.out 2).trans rfl
     have hcz16_3 : w15.cell? ⟨gb487, 3, none⟩ = some (.int .i64 t481) := (blk_cell BK487.out 3).trans rfl
     have hcz16_4 : w15.cell? ⟨gb487, 4, none⟩ = some (.int .i64 t482) := (blk_cell BK487.out 4).trans rfl
     have hfz16_0 := blk_frozen BK487.out 0
     have hfz16_1 := blk_frozen BK487.out 1
     have hfz16_2 := blk_frozen BK487.out 2
     have hfz16_3 := blk_frozen BK487.out 3
     have hfz16_4 := blk_frozen BK487.out 4
     try go_wp2_with (first | ((with_reducible refine gate_callee (f := 25) rfl ?_); refine goesL_ (some 29) rfl rfl Try.func25 (by kernel_rfl) rfl #[.agg #[.slice Ao11 t474.length co11, .slice Ao13 t477.length co13, .int .i64 t480, .int .i64 t481, .int .i64 t482], .int .i64 (wrap64 (1 + (wrap64 (Int.tdiv t481 (wrap64 (1 + (Int.tmod t488 20)))))))] rfl (by (try simp only [List.map_toArray, List.map_cons, List.map_nil]); first | done | rfl | (simp only [List.length_drop, List.length_take]; rfl)) ?_; (with_reducible refine (impl_Curve.calls k _ _ t474 _ _ t477 t480 t481 t482 (wrap64 (1 + (wrap64 (Int.tdiv t481 (wrap64 (1 + (Int.tmod t488 20))))))) t489 _ ?side1 ?side2 ?side3 ?side4 A6.out).mono ?_); (case side1 => repeat (first | exact (Kd.R_reads' HO476.out).2.2 | (with_reducible refine Kd.C_alloc ?_ _) | (with_reducible refine Kd.C_drewN ?_ _) | (with_reducible refine Kd.C_drew ?_))); (case side2 => exact (Kd.R_reads' HO476.out).2.1); (case side3 => repeat (first | exact (Kd.R_reads' HO479.out).2.2 | (with_reducible refine Kd.C_alloc ?_ _) | (with_reducible refine Kd.C_drewN ?_ _) | (with_reducible refine Kd.C_drew ?_))); (case side4 => exact (Kd.R_reads' HO479.out).2.1); rintro e w17 ⟨v490, rfl, ho0, hb⟩; refine ⟨_, rfl, ?_⟩; have n0_ := Aside0.mk (Kd.R_below (by (with_reducible repeat (first | apply Kd.R_alloc | apply Kd.R_drewN | apply Kd.R_drew)); exact HO476.out) hb); have n1_ := Aside0.mk (Kd.R_below (by (with_reducible repeat (first | apply Kd.R_alloc | apply Kd.R_drewN | apply Kd.R_drew)); exact HO479.out) hb); have n2_ := Aside0.mk (Kd.R_below (by (with_reducible repeat (first | apply Kd.R_alloc | apply Kd.R_drewN | apply Kd.R_drew)); exact HO486.out) hb); have n3_ := Aside0.mk (Kd.R_lower ho0 (below_size (by repeat (first | (with_reducible first | exact HB.out | apply below_alloc | apply pw_below_drewN | apply below_drew1 | refine below_set ?_ GE487.out) | exact HB.out)))); have n4_ := Aside0.mk (blk_below (g := gb487) (o := .cells #[.slice Ao11 t474.length co11, .slice Ao13 t477.length co13, .int .i64 t480, .int .i64 t481, .int .i64 t482] 26 (0, 0)) (by (with_reducible repeat (first | refine blk_drewN ?_ _ | refine blk_drew ?_ | refine blk_alloc ?_ _)); exact BK487.out) hb); have n5_ := Aside0.mk (below_step (by repeat (first | (with_reducible first | exact HB.out | apply below_alloc | apply pw_below_drewN | apply below_drew1 | refine below_set ?_ GE487.out) | exact HB.out)) hb); clear HO476; clear HO479; clear HO486; clear BK487; clear HB; have HO476 := n0_; have HO479 := n1_; have HO486 := n2_; have HO491 := n3_; have BK487 := n4_; have HB := n5_; clear n0_ n1_ n2_ n3_ n4_ n5_; (try clear hb); (try clear hb2); (try clear hk); (try clear hi); (try clear ho0); obtain ⟨Ao18, co18, eo18⟩ := Kd.R_slice HO491.out; subst eo18; have hcz19_0 : w17.cell? ⟨gb487, 0, none⟩ = some (.slice Ao11 t474.length co11) := (blk_cell BK487.out 0).trans rfl; have hcz19_1 : w17.cell? ⟨gb487, 1, none⟩ = some (.slice Ao13 t477.length co13) := (blk_cell BK487.out 1).trans rfl; have hcz19_2 : w17.cell? ⟨gb487, 2, none⟩ = some (.int .i64 t480) := (blk_cell BK487.out 2).trans rfl; have hcz19_3 : w17.cell? ⟨gb487, 3, none⟩ = some (.int .i64 t481) := (blk_cell BK487.out 3).trans rfl; have hcz19_4 : w17.cell? ⟨gb487, 4, none⟩ = some (.int .i64 t482) := (blk_cell BK487.out 4).trans rfl; have hfz19_0 := blk_frozen BK487.out 0; have hfz19_1 := blk_frozen BK487.out 1; have hfz19_2 := blk_frozen BK487.out 2; have hfz19_3 := blk_frozen BK487.out 3; have hfz19_4 := blk_frozen BK487.out 4))
     go_loopg [40] k (fun kq v40 w' => ∃ (x40_1 : Int), v40 = .int .i64 x40_1 ∧ Aside0 (laws_FnCurve.l0 kq (wrap64 (1 + (wrap64 (Int.tdiv t481 (wrap64 (1 + (Int.tmod t488 20))))))) t489 (t489.length : Int) x40_1 t474 t477 t480 t481 t482 = some r) ∧ Aside0 (kq ≤ k) ∧ Aside0 (Kd.R k52 52 w' w.heap.size (fun _ => True) (.slice Ao18 t489.length co18) t489) ∧ Aside0 (Kd.R k39 39 w' w.heap.size (fun _ => True) (.slice Ao11 t474.length co11) t474) ∧ Aside0 (Kd.R k45 45 w' w.heap.size (fun _ => True) (.slice Ao13 t477.length co13) t477) ∧ Aside0 (w'.heap[gb487]? = some (.cells #[(.slice Ao11 t474.length co11), (.slice Ao13 t477.length co13), .int .i64 t480, .int .i64 t481, .int .i64 t482] 26 (0, 0))) ∧ Aside0 (Below w.heap.size w w'))
     case atStart => exact ⟨(0), (by first | rfl | (simp; done) | (simp [*]; done)), H', ⟨Nat.le_refl _⟩, ⟨by (with_reducible repeat (first | apply Kd.R_alloc | apply Kd.R_drewN | apply Kd.R_drew)); exact HO491.out⟩, ⟨by (with_reducible repeat (first | apply Kd.R_alloc | apply Kd.R_drewN | apply Kd.R_drew)); exact HO476.out⟩, ⟨by (with_reducible repeat (first | apply Kd.R_alloc | apply Kd.R_drewN | apply Kd.R_drew)); exact HO479.out⟩, ⟨by (with_reducible repeat (first | refine blk_drewN ?_ _ | refine blk_drew ?_ | refine blk_alloc ?_ _)); exact BK487.out⟩, ⟨by repeat (first | (with_reducible first | exact HB.out | apply below_alloc | apply pw_below_drewN | apply below_drew1 | refine below_set ?_ GE487.out) | exact HB.out)⟩⟩
     case round =>
      clear H'
      try clear c1
      try clear c2
      try clear c2b0
      try clear c2b1
      try clear p2
      try clear c5
      try clear c5b0
      try clear c5b1
      try clear p6
      try clear c7
      try clear c7b0
      try clear c7b1
      try clear c8
      try clear c8b0
      try clear c8b1
      try clear c9
      try clear c15
      try clear hcz12_0
      try clear hcz12_1
      try clear hcz12_2
      try clear hcz12_3
      try clear hcz12_4
      try clear hcz16_0
      try clear hcz16_1
      try clear hcz16_2
      try clear hcz16_3
      try clear hcz16_4
      try clear hcz19_0
      try clear hcz19_1
      try clear hcz19_2
      try clear hcz19_3
      try clear hcz19_4
      try clear hfz12_0
      try clear hfz12_1
      try clear hfz12_2
      try clear hfz12_3
      try clear hfz12_4
      try clear hfz16_0
      try clear hfz16_1
      try clear hfz16_2
      try clear hfz16_3
      try clear hfz16_4
      try clear hfz19_0
      try clear hfz19_1
      try clear hfz19_2
      try clear hfz19_3
      try clear hfz19_4
      obtain ⟨x40_1, rfl, HA, HK1, HO_38, HO_488000, HO_488001, BK487, HB⟩ := hrel
      cases gk with
      | zero => exact absurd HA.out (by simp [laws_FnCurve.l0])
      | succ k1 =>
       have H := HA.out
       clear HA
       simp only [laws_FnCurve.l0] at H
       by_cases c20 : x40_1 < (t489.length : Int)
       ·rw [if_pos c20] at H
        have c20b0 : decide (x40_1 < (t489.length : Int)) = true := decide_eq_true c20
        clear c20
        by_cases c21 : 0 ≤ x40_1
        ·rw [if_pos c21] at H
         have c21b0 : decide (0 ≤ x40_1) = true := decide_eq_true c21
         clear c21
         by_cases c22 : x40_1 < (t489.length : Int)
         ·rw [if_pos c22] at H
          have c22b0 : decide (x40_1 < (t489.length : Int)) = true := decide_eq_true c22
          clear c22
          by_cases c23 : ((rd_T52 t489 x40_1).f0) = (wrap64 (x40_1 * (wrap64 (1 + (wrap64 (Int.tdiv t481 (wrap64 (1 + (Int.tmod t488 20)))))))))
          ·rw [if_pos c23] at H
           have c23b0 : (((rd_T52 t489 x40_1).f0) == (wrap64 (x40_1 * (wrap64 (1 + (wrap64 (Int.tdiv t481 (wrap64 (1 + (Int.tmod t488 20)))))))))) = true := beq_iff_eq.mpr c23
           have c23b1 : (((rd_T52 t489 x40_1).f0) != (wrap64 (x40_1 * (wrap64 (1 + (wrap64 (Int.tdiv t481 (wrap64 (1 + (Int.tmod t488 20)))))))))) = false := bne_eq_false_iff_eq.mpr c23
           clear c23
           replace H := Option.bind_eq_some_iff.mp H
           obtain ⟨t495, A240, H⟩ := H
           replace H : (if ((rd_T52 t489 x40_1).f1) = t495 then ((spec_MostNow.f k1 t474 t477 t480 t481 t482 ((rd_T52 t489 x40_1).f0)).bind fun t496 => (if ((rd_T52 t489 x40_1).f1) = t496 then (laws_FnCurve.l0 k1 (wrap64 (1 + (wrap64 (Int.tdiv t481 (wrap64 (1 + (Int.tmod t488 20))))))) t489 (t489.length : Int) (wrap64 (x40_1 + 1)) t474 t477 t480 t481 t482) else (some false))) else (some false)) = some r := H
           have A24 := Aside0.mk A240
           clear A240
           by_cases c25 : ((rd_T52 t489 x40_1).f1) = t495
           ·rw [if_pos c25] at H
            have c25b0 : (((rd_T52 t489 x40_1).f1) == t495) = true := beq_iff_eq.mpr c25
            have c25b1 : (((rd_T52 t489 x40_1).f1) != t495) = false := bne_eq_false_iff_eq.mpr c25
            clear c25
            replace H := Option.bind_eq_some_iff.mp H
            obtain ⟨t496, A260, H⟩ := H
            replace H : (if ((rd_T52 t489 x40_1).f1) = t496 then (laws_FnCurve.l0 k1 (wrap64 (1 + (wrap64 (Int.tdiv t481 (wrap64 (1 + (Int.tmod t488 20))))))) t489 (t489.length : Int) (wrap64 (x40_1 + 1)) t474 t477 t480 t481 t482) else (some false)) = some r := H
            have A26 := Aside0.mk A260
            clear A260
            by_cases c27 : ((rd_T52 t489 x40_1).f1) = t496
            ·rw [if_pos c27] at H
             have c27b0 : (((rd_T52 t489 x40_1).f1) == t496) = true := beq_iff_eq.mpr c27
             have c27b1 : (((rd_T52 t489 x40_1).f1) != t496) = false := bne_eq_false_iff_eq.mpr c27
             clear c27
             have H' := Aside0.mk H
             clear H
             have p493 : 0 ≤ (x40_1 : Int) := of_decide_eq_true (by first | (with_reducible assumption) | assumption)
             have q493 : x40_1 < (t489.length : Int) := of_decide_eq_true (by first | (with_reducible assumption) | assumption)
             obtain ⟨ad493, e493, hx493_0, hx493_1⟩ := at_T52 (Kd.R_reads' HO_38.out).2.2 x40_1 p493 q493
             cases e493
             replace p493 := eq_true p493
             replace q493 := eq_true q493
             try go_wp2_with (first | ((with_reducible refine gate_dst (N := 9) rfl ?_); refine box_event ?hg (N := 9) ?hd (cs := #[.int .i64 0, .int .i64 0]) (t := 52) ?hr ?_; (case hd => rfl); (case hg => rfl); (case hr => first | (go_simp; done) | (go_simp; rfl)); intro gb494 hg w28 hbox hb; have n0_ := Aside0.mk (Kd.R_below (Kd.R_elderB (by (with_reducible repeat (first | apply Kd.R_alloc | apply Kd.R_drewN | apply Kd.R_drew)); exact HO_38.out) gb494 (Nat.le_of_eq hg.symm)) hb); have n1_ := Aside0.mk (Kd.R_below (by (with_reducible repeat (first | apply Kd.R_alloc | apply Kd.R_drewN | apply Kd.R_drew)); exact HO_488000.out) hb); have n2_ := Aside0.mk (Kd.R_below (by (with_reducible repeat (first | apply Kd.R_alloc | apply Kd.R_drewN | apply Kd.R_drew)); exact HO_488001.out) hb); have n3_ := Aside0.mk (blk_below (g := gb487) (o := .cells #[.slice Ao11 t474.length co11, .slice Ao13 t477.length co13, .int .i64 t480, .int .i64 t481, .int .i64 t482] 26 (0, 0)) (by (with_reducible repeat (first | refine blk_drewN ?_ _ | refine blk_drew ?_ | refine blk_alloc ?_ _)); exact BK487.out) hb); have n4_ := Aside0.mk (below_step (by repeat (first | (with_reducible first | exact HB.out | apply below_alloc | apply pw_below_drewN | apply below_drew1 | refine below_set ?_ GE487.out) | exact HB.out)) hb); have n5_ := Aside0.mk (hbox); have n6_ := Aside0.mk ((by rw [hg]; exact (below_size (by repeat (first | (with_reducible first | exact HB.out | apply below_alloc | apply pw_below_drewN | apply below_drew1 | refine below_set ?_ GE487.out) | exact HB.out))) : w.heap.size ≤ gb494)); have n7_ := Aside0.mk ((by rw [hg]; exact (below_size (by repeat (first | (with_reducible first | exact HB.out | apply below_alloc | apply pw_below_drewN | apply below_drew1 | refine below_set ?_ GE487.out) | exact HB.out))) : w.heap.size ≤ gb494)); have n8_ := Aside0.mk ((by rw [hg]; exact Nat.ne_of_lt (blk_lt (g := gb487) (o := .cells #[.slice Ao11 t474.length co11, .slice Ao13 t477.length co13, .int .i64 t480, .int .i64 t481, .int .i64 t482] 26 (0, 0)) (by (with_reducible repeat (first | refine blk_drewN ?_ _ | refine blk_drew ?_ | refine blk_alloc ?_ _)); exact BK487.out)) : gb487 ≠ gb494)); have n9_ := Aside0.mk ((by rw [hg]; exact Nat.ne_of_gt (blk_lt (g := gb487) (o := .cells #[.slice Ao11 t474.length co11, .slice Ao13 t477.length co13, .int .i64 t480, .int .i64 t481, .int .i64 t482] 26 (0, 0)) (by (with_reducible repeat (first | refine blk_drewN ?_ _ | refine blk_drew ?_ | refine blk_alloc ?_ _)); exact BK487.out)) : gb494 ≠ gb487)); clear HO_38; clear HO_488000; clear HO_488001; clear BK487; clear HB; have HO_38 := n0_; have HO_488000 := n1_; have HO_488001 := n2_; have BK487 := n3_; have HB := n4_; have BK494 := n5_; have GW494 := n6_; have GE494 := n7_; have NB487_494 := n8_; have NB494_487 := n9_; clear n0_ n1_ n2_ n3_ n4_ n5_ n6_ n7_ n8_ n9_; clear hb hbox hg; have hnb29 := NB494_487.out; have hnc29 := NB487_494.out; have hcz30_0 : w28.cell? ⟨gb494, 0, none⟩ = some (.int .i64 0) := (blk_cell BK494.out 0).trans rfl; have hcz30_1 : w28.cell? ⟨gb494, 1, none⟩ = some (.int .i64 0) := (blk_cell BK494.out 1).trans rfl; have hfz30_0 := blk_frozen BK494.out 0; have hfz30_1 := blk_frozen BK494.out 1))
             have n0_ : Aside0 (Kd.R k52 52 ((w28.setCell ⟨gb494, 0, none⟩ (.int .i64 ((rd_T52 t489 x40_1).f0))).setCell ⟨gb494, 1, none⟩ (.int .i64 ((rd_T52 t489 x40_1).f1))) w.heap.size (fun k_ => k_ ≠ gb494) (.slice (some ad493) t489.length co18) t489) := ⟨by (with_reducible repeat (first | apply Kd.R_alloc | apply Kd.R_drewN | apply Kd.R_drew)); exact Kd.R_mono (Kd.R_far (p := ⟨gb494, 1, none⟩) (Kd.R_far (p := ⟨gb494, 0, none⟩) (Kd.R_mono HO_38.out (fun k_ hk => (⟨hk, hk.2⟩ : _ ∧ k_ ≠ gb494))) (fun _ hk => hk.2) (.int .i64 ((rd_T52 t489 x40_1).f0))) (fun _ hk => hk.2) (.int .i64 ((rd_T52 t489 x40_1).f1))) (fun _ hk => hk.1.2)⟩
             have n1_ : Aside0 (Kd.R k39 39 ((w28.setCell ⟨gb494, 0, none⟩ (.int .i64 ((rd_T52 t489 x40_1).f0))).setCell ⟨gb494, 1, none⟩ (.int .i64 ((rd_T52 t489 x40_1).f1))) w.heap.size (fun _ => True) (.slice Ao11 t474.length co11) t474) := ⟨by (with_reducible repeat (first | apply Kd.R_alloc | apply Kd.R_drewN | apply Kd.R_drew)); exact Kd.R_mono (Kd.R_far (p := ⟨gb494, 1, none⟩) (Kd.R_far (p := ⟨gb494, 0, none⟩) (Kd.R_types HO_488000.out BK494.out (by decide)) (fun _ hk => hk.2) (.int .i64 ((rd_T52 t489 x40_1).f0))) (fun _ hk => hk.2) (.int .i64 ((rd_T52 t489 x40_1).f1))) (fun _ hk => trivial)⟩
             have n2_ : Aside0 (Kd.R k45 45 ((w28.setCell ⟨gb494, 0, none⟩ (.int .i64 ((rd_T52 t489 x40_1).f0))).setCell ⟨gb494, 1, none⟩ (.int .i64 ((rd_T52 t489 x40_1).f1))) w.heap.size (fun _ => True) (.slice Ao13 t477.length co13) t477) := ⟨by (with_reducible repeat (first | apply Kd.R_alloc | apply Kd.R_drewN | apply Kd.R_drew)); exact Kd.R_mono (Kd.R_far (p := ⟨gb494, 1, none⟩) (Kd.R_far (p := ⟨gb494, 0, none⟩) (Kd.R_types HO_488001.out BK494.out (by decide)) (fun _ hk => hk.2) (.int .i64 ((rd_T52 t489 x40_1).f0))) (fun _ hk => hk.2) (.int .i64 ((rd_T52 t489 x40_1).f1))) (fun _ hk => trivial)⟩
             have n3_ : Aside0 (((w28.setCell ⟨gb494, 0, none⟩ (.int .i64 ((rd_T52 t489 x40_1).f0))).setCell ⟨gb494, 1, none⟩ (.int .i64 ((rd_T52 t489 x40_1).f1))).heap[gb487]? = some (.cells #[.slice Ao11 t474.length co11, .slice Ao13 t477.length co13, .int .i64 t480, .int .i64 t481, .int .i64 t482] 26 (0, 0))) := ⟨by (with_reducible repeat (first | refine blk_drewN ?_ _ | refine blk_drew ?_ | refine blk_alloc ?_ _)); refine blk_far ?_ NB487_494.out _; (with_reducible repeat (first | refine blk_drewN ?_ _ | refine blk_drew ?_ | refine blk_alloc ?_ _)); refine blk_far ?_ NB487_494.out _; (with_reducible repeat (first | refine blk_drewN ?_ _ | refine blk_drew ?_ | refine blk_alloc ?_ _)); exact BK487.out⟩
             have n4_ : Aside0 (((w28.setCell ⟨gb494, 0, none⟩ (.int .i64 ((rd_T52 t489 x40_1).f0))).setCell ⟨gb494, 1, none⟩ (.int .i64 ((rd_T52 t489 x40_1).f1))).heap[gb494]? = some (.cells #[.int .i64 ((rd_T52 t489 x40_1).f0), .int .i64 ((rd_T52 t489 x40_1).f1)] 52 (0, 0))) := ⟨by (with_reducible repeat (first | refine blk_drewN ?_ _ | refine blk_drew ?_ | refine blk_alloc ?_ _)); refine blk_put (cs := #[.int .i64 ((rd_T52 t489 x40_1).f0), .int .i64 0]) ?_ 1 _ rfl; (with_reducible repeat (first | refine blk_drewN ?_ _ | refine blk_drew ?_ | refine blk_alloc ?_ _)); refine blk_put (cs := #[.int .i64 0, .int .i64 0]) ?_ 0 _ rfl; (with_reducible repeat (first | refine blk_drewN ?_ _ | refine blk_drew ?_ | refine blk_alloc ?_ _)); exact BK494.out⟩
             have n5_ : Aside0 (Below w.heap.size w ((w28.setCell ⟨gb494, 0, none⟩ (.int .i64 ((rd_T52 t489 x40_1).f0))).setCell ⟨gb494, 1, none⟩ (.int .i64 ((rd_T52 t489 x40_1).f1)))) := ⟨by repeat (first | (with_reducible first | exact HB.out | apply below_alloc | apply pw_below_drewN | apply below_drew1 | refine below_set ?_ GE487.out | refine below_set ?_ GE494.out) | exact HB.out)⟩
             (try clear HO_38)
             (try clear HO_488000)
             (try clear HO_488001)
             (try clear BK487)
             (try clear BK494)
             (try clear HB)
             generalize ((w28.setCell ⟨gb494, 0, none⟩ (.int .i64 ((rd_T52 t489 x40_1).f0))).setCell ⟨gb494, 1, none⟩ (.int .i64 ((rd_T52 t489 x40_1).f1))) = w31 at n0_ n1_ n2_ n3_ n4_ n5_ ⊢
             have HO_38 := n0_
             have HO_488000 := n1_
             have HO_488001 := n2_
             have BK487 := n3_
             have BK494 := n4_
             have HB := n5_
             clear n0_ n1_ n2_ n3_ n4_ n5_
             have n0_ := Aside0.mk (Kd.R_drew HO_38.out)
             have n1_ := Aside0.mk (Kd.R_drew HO_488000.out)
             have n2_ := Aside0.mk (Kd.R_drew HO_488001.out)
             have n3_ := Aside0.mk (blk_drew BK487.out)
             have n4_ := Aside0.mk (blk_drew BK494.out)
             have n5_ := Aside0.mk (below_drew1 HB.out)
             clear HO_38
             clear HO_488000
             clear HO_488001
             clear BK487
             clear BK494
             clear HB
             have HO_38 := n0_
             have HO_488000 := n1_
             have HO_488001 := n2_
             have BK487 := n3_
             have BK494 := n4_
             have HB := n5_
             clear n0_ n1_ n2_ n3_ n4_ n5_
             refine start_ (n := 24) (S := fun w' => w'.cell? ⟨gb494, 0, none⟩ = some (.int .i64 ((rd_T52 t489 x40_1).f0)) ∧ w'.cell? ⟨gb494, 1, none⟩ = some (.int .i64 ((rd_T52 t489 x40_1).f1)) ∧ w'.cell? ⟨gb487, 0, none⟩ = some (.slice Ao11 t474.length co11) ∧ w'.cell? ⟨gb487, 1, none⟩ = some (.slice Ao13 t477.length co13) ∧ w'.cell? ⟨gb487, 2, none⟩ = some (.int .i64 t480) ∧ w'.cell? ⟨gb487, 3, none⟩ = some (.int .i64 t481) ∧ w'.cell? ⟨gb487, 4, none⟩ = some (.int .i64 t482)) (ds := []) #[false, false, false, false, false, false, false, false, false, false, false, false, false, false, false, false, false, false, false, false, false, false, false, false] (by kernel_rfl) rfl rfl ⟨(blk_cell BK494.out 0).trans rfl, (blk_cell BK494.out 1).trans rfl, (blk_cell BK487.out 0).trans rfl, (blk_cell BK487.out 1).trans rfl, (blk_cell BK487.out 2).trans rfl, (blk_cell BK487.out 3).trans rfl, (blk_cell BK487.out 4).trans rfl⟩ (fun hHeld => ?_); refine with_tabW laws_FnCurve.tab11 laws_FnCurve.bits11 (fun HT_ HW_ => ?_)
             generalize w31.drew = w32 at HO_38 HO_488000 HO_488001 BK487 BK494 HB hHeld ⊢
             refine pure_ (i := 0) (N := some 45) (v := ?_) (a' := ?_) #[true, false, false, false, false, false, false, false, false, false, false, false, false, false, false, false, false, false, false, false, false, false, false, false] rfl rfl (any_of HT_.out (by kernel_rfl)) (fun _ _ _ h => h) (Or.inl ⟨by rfl, ?_⟩) ?_ ?_
             rotate_left
             ·intro w'
              go_simp
              with_reducible rfl
             rotate_left
             ·simp only [Act.put, List.setIfInBounds_toArray, List.set_cons_zero, List.set_cons_succ, i64_w, i32_w]
              rfl
             refine pure_ (i := 2) (N := some 47) (v := ?_) (a' := ?_) #[true, false, true, false, false, false, false, false, false, false, false, false, false, false, false, false, false, false, false, false, false, false, false, false] rfl rfl (any_of HT_.out (by kernel_rfl)) (fun _ _ _ h => h) (Or.inl ⟨by rfl, ?_⟩) ?_ ?_
             rotate_left
             ·intro w'
              go_simp
              with_reducible rfl
             rotate_left
             ·simp only [Act.put, List.setIfInBounds_toArray, List.set_cons_zero, List.set_cons_succ, i64_w, i32_w]
              rfl
             refine pure_ (i := 3) (N := some 48) (v := ?_) (a' := ?_) #[true, false, true, true, false, false, false, false, false, false, false, false, false, false, false, false, false, false, false, false, false, false, false, false] rfl rfl (any_of HT_.out (by kernel_rfl)) (fun _ _ _ h => h) (Or.inl ⟨by rfl, ?_⟩) ?_ ?_
             rotate_left
             ·intro w'
              go_simp
              with_reducible rfl
             rotate_left
             ·simp only [Act.put, List.setIfInBounds_toArray, List.set_cons_zero, List.set_cons_succ, i64_w, i32_w]
              rfl
             refine pure_ (i := 4) (N := some 49) (v := ?_) (a' := ?_) #[true, false, true, true, true, false, false, false, false, false, false, false, false, false, false, false, false, false, false, false, false, false, false, false] rfl rfl (any_of HT_.out (by kernel_rfl)) (fun _ _ _ h => h) (Or.inl ⟨by rfl, ?_⟩) ?_ ?_
             rotate_left
             ·intro w'
              go_simp
              with_reducible rfl
             rotate_left
             ·simp only [Act.put, List.setIfInBounds_toArray, List.set_cons_zero, List.set_cons_succ, i64_w, i32_w]
              rfl
             refine take_ (i := 1) (N := some 46) (v := ?_) (a' := ?_) #[true, true, true, true, true, false, false, false, false, false, false, false, false, false, false, false, false, false, false, false, false, false, false, false] rfl rfl (take_ofW HT_.out HW_.out (by kernel_rfl)) (fun _ _ _ h => h) (Or.inl ⟨by rfl, ?_⟩) hHeld ?_ ?_
             rotate_left
             ·rintro w' ⟨s0, s1, s2, s3, s4, s5, s6⟩
              go_simp
              with_reducible rfl
             rotate_left
             ·simp only [Act.put, List.setIfInBounds_toArray, List.set_cons_zero, List.set_cons_succ, i64_w, i32_w]
              rfl
             refine pure_ (i := 5) (N := some 50) (v := ?_) (a' := ?_) #[true, true, true, true, true, true, false, false, false, false, false, false, false, false, false, false, false, false, false, false, false, false, false, false] rfl rfl (any_of HT_.out (by kernel_rfl)) (fun _ _ _ h => h) (Or.inl ⟨by rfl, ?_⟩) ?_ ?_
             rotate_left
             ·intro w'
              go_simp
              with_reducible rfl
             rotate_left
             ·simp only [Act.put, List.setIfInBounds_toArray, List.set_cons_zero, List.set_cons_succ, i64_w, i32_w]
              rfl
             refine pure_ (i := 6) (N := some 51) (v := ?_) (a' := ?_) #[true, true, true, true, true, true, true, false, false, false, false, false, false, false, false, false, false, false, false, false, false, false, false, false] rfl rfl (any_of HT_.out (by kernel_rfl)) (fun _ _ _ h => h) (Or.inl ⟨by rfl, ?_⟩) ?_ ?_
             rotate_left
             ·intro w'
              go_simp
              with_reducible rfl
             rotate_left
             ·simp only [Act.put, List.setIfInBounds_toArray, List.set_cons_zero, List.set_cons_succ, i64_w, i32_w]
              rfl
             refine pure_ (i := 7) (N := some 52) (v := ?_) (a' := ?_) #[true, true, true, true, true, true, true, true, false, false, false, false, false, false, false, false, false, false, false, false, false, false, false, false] rfl rfl (any_of HT_.out (by kernel_rfl)) (fun _ _ _ h => h) (Or.inl ⟨by rfl, ?_⟩) ?_ ?_
             rotate_left
             ·intro w'
              go_simp
              with_reducible rfl
             rotate_left
             ·simp only [Act.put, List.setIfInBounds_toArray, List.set_cons_zero, List.set_cons_succ, i64_w, i32_w]
              rfl
             refine pure_ (i := 10) (N := some 55) (v := ?_) (a' := ?_) #[true, true, true, true, true, true, true, true, false, false, true, false, false, false, false, false, false, false, false, false, false, false, false, false] rfl rfl (any_of HT_.out (by kernel_rfl)) (fun _ _ _ h => h) (Or.inl ⟨by rfl, ?_⟩) ?_ ?_
             rotate_left
             ·intro w'
              go_simp
              with_reducible rfl
             rotate_left
             ·simp only [Act.put, List.setIfInBounds_toArray, List.set_cons_zero, List.set_cons_succ, i64_w, i32_w]
              rfl
             refine take_ (i := 8) (N := some 53) (v := ?_) (a' := ?_) #[true, true, true, true, true, true, true, true, true, false, true, false, false, false, false, false, false, false, false, false, false, false, false, false] rfl rfl (take_ofW HT_.out HW_.out (by kernel_rfl)) (fun _ _ _ h => h) (Or.inl ⟨by rfl, ?_⟩) hHeld ?_ ?_
             rotate_left
             ·rintro w' ⟨s0, s1, s2, s3, s4, s5, s6⟩
              go_simp
              with_reducible rfl
             rotate_left
             ·simp only [Act.put, List.setIfInBounds_toArray, List.set_cons_zero, List.set_cons_succ, i64_w, i32_w]
              rfl
             refine take_ (i := 9) (N := some 54) (v := ?_) (a' := ?_) #[true, true, true, true, true, true, true, true, true, true, true, false, false, false, false, false, false, false, false, false, false, false, false, false] rfl rfl (take_ofW HT_.out HW_.out (by kernel_rfl)) (fun _ _ _ h => h) (Or.inl ⟨by rfl, ?_⟩) hHeld ?_ ?_
             rotate_left
             ·rintro w' ⟨s0, s1, s2, s3, s4, s5, s6⟩
              go_simp
              with_reducible rfl
             rotate_left
             ·simp only [Act.put, List.setIfInBounds_toArray, List.set_cons_zero, List.set_cons_succ, i64_w, i32_w]
              rfl
             refine take_ (i := 11) (N := some 56) (v := ?_) (a' := ?_) #[true, true, true, true, true, true, true, true, true, true, true, true, false, false, false, false, false, false, false, false, false, false, false, false] rfl rfl (take_ofW HT_.out HW_.out (by kernel_rfl)) (fun _ _ _ h => h) (Or.inl ⟨by rfl, ?_⟩) hHeld ?_ ?_
             rotate_left
             ·rintro w' ⟨s0, s1, s2, s3, s4, s5, s6⟩
              go_simp
              with_reducible rfl
             rotate_left
             ·simp only [Act.put, List.setIfInBounds_toArray, List.set_cons_zero, List.set_cons_succ, i64_w, i32_w]
              rfl
             refine one_ (i := 12) (N := some 57) #[true, true, true, true, true, true, true, true, true, true, true, true, true, false, false, false, false, false, false, false, false, false, false, false] rfl rfl (one_of HT_.out (by kernel_rfl)) (by decide) (fun K hK => ?_)
             refine goes_ Try.func23 (by kernel_rfl) rfl #[.agg #[.slice Ao11 t474.length co11, .slice Ao13 t477.length co13, .int .i64 t480, .int .i64 t481, .int .i64 t482], .int .i64 ((rd_T52 t489 x40_1).f0)] (by rfl) rfl rfl (by (try simp only [List.map_toArray, List.map_cons, List.map_nil]); first | done | rfl | (simp only [List.length_drop, List.length_take]; rfl)) ?_
             with_reducible refine (impl_MostNow.calls k1 _ _ t474 _ _ t477 t480 t481 t482 ((rd_T52 t489 x40_1).f0) t495 _ ?side1 ?side2 ?side3 ?side4 A24.out).mono ?_
             (case side1 => repeat (first | exact (Kd.R_reads' HO_488000.out).2.2 | (with_reducible refine Kd.C_alloc ?_ _) | (with_reducible refine Kd.C_drewN ?_ _) | (with_reducible refine Kd.C_drew ?_)))
             (case side2 => exact (Kd.R_reads' HO_488000.out).2.1)
             (case side3 => repeat (first | exact (Kd.R_reads' HO_488001.out).2.2 | (with_reducible refine Kd.C_alloc ?_ _) | (with_reducible refine Kd.C_drewN ?_ _) | (with_reducible refine Kd.C_drew ?_)))
             (case side4 => exact (Kd.R_reads' HO_488001.out).2.1)
             rintro e w33 ⟨rfl, hb⟩
             refine ⟨_, rfl, ?_⟩
             have n0_ := Aside0.mk (Kd.R_below (by (with_reducible repeat (first | apply Kd.R_alloc | apply Kd.R_drewN | apply Kd.R_drew)); exact HO_38.out) hb)
             have n1_ := Aside0.mk (Kd.R_below (by (with_reducible repeat (first | apply Kd.R_alloc | apply Kd.R_drewN | apply Kd.R_drew)); exact HO_488000.out) hb)
             have n2_ := Aside0.mk (Kd.R_below (by (with_reducible repeat (first | apply Kd.R_alloc | apply Kd.R_drewN | apply Kd.R_drew)); exact HO_488001.out) hb)
             have n3_ := Aside0.mk (blk_below (g := gb487) (o := .cells #[.slice Ao11 t474.length co11, .slice Ao13 t477.length co13, .int .i64 t480, .int .i64 t481, .int .i64 t482] 26 (0, 0)) (by (with_reducible repeat (first | refine blk_drewN ?_ _ | refine blk_drew ?_ | refine blk_alloc ?_ _)); exact BK487.out) hb)
             have n4_ := Aside0.mk (blk_below (g := gb494) (o := .cells #[.int .i64 ((rd_T52 t489 x40_1).f0), .int .i64 ((rd_T52 t489 x40_1).f1)] 52 (0, 0)) (by (with_reducible repeat (first | refine blk_drewN ?_ _ | refine blk_drew ?_ | refine blk_alloc ?_ _)); exact BK494.out) hb)
             have n5_ := Aside0.mk (below_step (by repeat (first | (with_reducible first | exact HB.out | apply below_alloc | apply pw_below_drewN | apply below_drew1 | refine below_set ?_ GE487.out | refine below_set ?_ GE494.out) | exact HB.out)) hb)
             clear HO_38
             clear HO_488000
             clear HO_488001
             clear BK487
             clear BK494
             clear HB
             have HO_38 := n0_
             have HO_488000 := n1_
             have HO_488001 := n2_
             have BK487 := n3_
             have BK494 := n4_
             have HB := n5_
             clear n0_ n1_ n2_ n3_ n4_ n5_
             (try clear hb)
             (try clear hb2)
             (try clear hk)
             (try clear hi)
             refine hK.out _ _ ⟨(blk_cell BK494.out 0).trans rfl, (blk_cell BK494.out 1).trans rfl, (blk_cell BK487.out 0).trans rfl, (blk_cell BK487.out 1).trans rfl, (blk_cell BK487.out 2).trans rfl, (blk_cell BK487.out 3).trans rfl, (blk_cell BK487.out 4).trans rfl⟩ (fun hHeld => ?_)
             clear hK K
             refine norm_ (a' := ?_) ?_ ?_
             rotate_left
             ·show Act.put _ (some 57) _ = _
              simp only [Act.put, List.setIfInBounds_toArray, List.set_cons_zero, List.set_cons_succ, i64_w, i32_w]
              rfl
             refine pure_ (i := 13) (N := some 58) (v := ?_) (a' := ?_) #[true, true, true, true, true, true, true, true, true, true, true, true, true, true, false, false, false, false, false, false, false, false, false, false] rfl rfl (any_of HT_.out (by kernel_rfl)) (fun _ _ _ h => h) (Or.inl ⟨by rfl, ?_⟩) ?_ ?_
             rotate_left
             ·intro w'
              go_simp
              with_reducible rfl
             rotate_left
             ·simp only [Act.put, List.setIfInBounds_toArray, List.set_cons_zero, List.set_cons_succ, i64_w, i32_w]
              rfl
             refine pure_ (i := 14) (N := some 59) (v := ?_) (a' := ?_) #[true, true, true, true, true, true, true, true, true, true, true, true, true, true, true, false, false, false, false, false, false, false, false, false] rfl rfl (any_of HT_.out (by kernel_rfl)) (fun _ _ _ h => h) (Or.inl ⟨by rfl, ?_⟩) ?_ ?_
             rotate_left
             ·intro w'
              go_simp
              with_reducible rfl
             rotate_left
             ·simp only [Act.put, List.setIfInBounds_toArray, List.set_cons_zero, List.set_cons_succ, i64_w, i32_w]
              rfl
             refine pure_ (i := 15) (N := some 60) (v := ?_) (a' := ?_) #[true, true, true, true, true, true, true, true, true, true, true, true, true, true, true, true, false, false, false, false, false, false, false, false] rfl rfl (any_of HT_.out (by kernel_rfl)) (fun _ _ _ h => h) (Or.inl ⟨by rfl, ?_⟩) ?_ ?_
             rotate_left
             ·intro w'
              go_simp
              with_reducible rfl
             rotate_left
             ·simp only [Act.put, List.setIfInBounds_toArray, List.set_cons_zero, List.set_cons_succ, i64_w, i32_w]
              rfl
             refine pure_ (i := 16) (N := some 61) (v := ?_) (a' := ?_) #[true, true, true, true, true, true, true, true, true, true, true, true, true, true, true, true, true, false, false, false, false, false, false, false] rfl rfl (any_of HT_.out (by kernel_rfl)) (fun _ _ _ h => h) (Or.inl ⟨by rfl, ?_⟩) ?_ ?_
             rotate_left
             ·intro w'
              go_simp
              with_reducible rfl
             rotate_left
             ·simp only [Act.put, List.setIfInBounds_toArray, List.set_cons_zero, List.set_cons_succ, i64_w, i32_w]
              rfl
             refine pure_ (i := 19) (N := some 64) (v := ?_) (a' := ?_) #[true, true, true, true, true, true, true, true, true, true, true, true, true, true, true, true, true, false, false, true, false, false, false, false] rfl rfl (any_of HT_.out (by kernel_rfl)) (fun _ _ _ h => h) (Or.inl ⟨by rfl, ?_⟩) ?_ ?_
             rotate_left
             ·intro w'
              go_simp
              with_reducible rfl
             rotate_left
             ·simp only [Act.put, List.setIfInBounds_toArray, List.set_cons_zero, List.set_cons_succ, i64_w, i32_w]
              rfl
             refine take_ (i := 17) (N := some 62) (v := ?_) (a' := ?_) #[true, true, true, true, true, true, true, true, true, true, true, true, true, true, true, true, true, true, false, true, false, false, false, false] rfl rfl (take_ofW HT_.out HW_.out (by kernel_rfl)) (fun _ _ _ h => h) (Or.inl ⟨by rfl, ?_⟩) hHeld ?_ ?_
             rotate_left
             ·rintro w' ⟨s0, s1, s2, s3, s4, s5, s6⟩
              go_simp
              with_reducible rfl
             rotate_left
             ·simp only [Act.put, List.setIfInBounds_toArray, List.set_cons_zero, List.set_cons_succ, i64_w, i32_w]
              rfl
             refine take_ (i := 18) (N := some 63) (v := ?_) (a' := ?_) #[true, true, true, true, true, true, true, true, true, true, true, true, true, true, true, true, true, true, true, true, false, false, false, false] rfl rfl (take_ofW HT_.out HW_.out (by kernel_rfl)) (fun _ _ _ h => h) (Or.inl ⟨by rfl, ?_⟩) hHeld ?_ ?_
             rotate_left
             ·rintro w' ⟨s0, s1, s2, s3, s4, s5, s6⟩
              go_simp
              with_reducible rfl
             rotate_left
             ·simp only [Act.put, List.setIfInBounds_toArray, List.set_cons_zero, List.set_cons_succ, i64_w, i32_w]
              rfl
             refine take_ (i := 20) (N := some 65) (v := ?_) (a' := ?_) #[true, true, true, true, true, true, true, true, true, true, true, true, true, true, true, true, true, true, true, true, true, false, false, false] rfl rfl (take_ofW HT_.out HW_.out (by kernel_rfl)) (fun _ _ _ h => h) (Or.inl ⟨by rfl, ?_⟩) hHeld ?_ ?_
             rotate_left
             ·rintro w' ⟨s0, s1, s2, s3, s4, s5, s6⟩
              go_simp
              with_reducible rfl
             rotate_left
             ·simp only [Act.put, List.setIfInBounds_toArray, List.set_cons_zero, List.set_cons_succ, i64_w, i32_w]
              rfl
             refine one_ (i := 21) (N := some 66) #[true, true, true, true, true, true, true, true, true, true, true, true, true, true, true, true, true, true, true, true, true, true, false, false] rfl rfl (one_of HT_.out (by kernel_rfl)) (by decide) (fun K hK => ?_)
             refine goes_ Try.func24 (by kernel_rfl) rfl #[.agg #[.slice Ao11 t474.length co11, .slice Ao13 t477.length co13, .int .i64 t480, .int .i64 t481, .int .i64 t482], .int .i64 ((rd_T52 t489 x40_1).f0)] (by rfl) rfl rfl (by (try simp only [List.map_toArray, List.map_cons, List.map_nil]); first | done | rfl | (simp only [List.length_drop, List.length_take]; rfl)) ?_
             with_reducible refine (spec_MostNow.calls k1 _ _ t474 _ _ t477 t480 t481 t482 ((rd_T52 t489 x40_1).f0) t496 _ ?side1 ?side2 ?side3 ?side4 A26.out).mono ?_
             (case side1 => repeat (first | exact (Kd.R_reads' HO_488000.out).2.2 | (with_reducible refine Kd.C_alloc ?_ _) | (with_reducible refine Kd.C_drewN ?_ _) | (with_reducible refine Kd.C_drew ?_)))
             (case side2 => exact (Kd.R_reads' HO_488000.out).2.1)
             (case side3 => repeat (first | exact (Kd.R_reads' HO_488001.out).2.2 | (with_reducible refine Kd.C_alloc ?_ _) | (with_reducible refine Kd.C_drewN ?_ _) | (with_reducible refine Kd.C_drew ?_)))
             (case side4 => exact (Kd.R_reads' HO_488001.out).2.1)
             rintro e w34 ⟨rfl, hb⟩
             refine ⟨_, rfl, ?_⟩
             have n0_ := Aside0.mk (Kd.R_below (by (with_reducible repeat (first | apply Kd.R_alloc | apply Kd.R_drewN | apply Kd.R_drew)); exact HO_38.out) hb)
             have n1_ := Aside0.mk (Kd.R_below (by (with_reducible repeat (first | apply Kd.R_alloc | apply Kd.R_drewN | apply Kd.R_drew)); exact HO_488000.out) hb)
             have n2_ := Aside0.mk (Kd.R_below (by (with_reducible repeat (first | apply Kd.R_alloc | apply Kd.R_drewN | apply Kd.R_drew)); exact HO_488001.out) hb)
             have n3_ := Aside0.mk (blk_below (g := gb487) (o := .cells #[.slice Ao11 t474.length co11, .slice Ao13 t477.length co13, .int .i64 t480, .int .i64 t481, .int .i64 t482] 26 (0, 0)) (by (with_reducible repeat (first | refine blk_drewN ?_ _ | refine blk_drew ?_ | refine blk_alloc ?_ _)); exact BK487.out) hb)
             have n4_ := Aside0.mk (blk_below (g := gb494) (o := .cells #[.int .i64 ((rd_T52 t489 x40_1).f0), .int .i64 ((rd_T52 t489 x40_1).f1)] 52 (0, 0)) (by (with_reducible repeat (first | refine blk_drewN ?_ _ | refine blk_drew ?_ | refine blk_alloc ?_ _)); exact BK494.out) hb)
             have n5_ := Aside0.mk (below_step (by repeat (first | (with_reducible first | exact HB.out | apply below_alloc | apply pw_below_drewN | apply below_drew1 | refine below_set ?_ GE487.out | refine below_set ?_ GE494.out) | exact HB.out)) hb)
             clear HO_38
             clear HO_488000
             clear HO_488001
             clear BK487
             clear BK494
             clear HB
             have HO_38 := n0_
             have HO_488000 := n1_
             have HO_488001 := n2_
             have BK487 := n3_
             have BK494 := n4_
             have HB := n5_
             clear n0_ n1_ n2_ n3_ n4_ n5_
             (try clear hb)
             (try clear hb2)
             (try clear hk)
             (try clear hi)
             refine hK.out _ _ ⟨(blk_cell BK494.out 0).trans rfl, (blk_cell BK494.out 1).trans rfl, (blk_cell BK487.out 0).trans rfl, (blk_cell BK487.out 1).trans rfl, (blk_cell BK487.out 2).trans rfl, (blk_cell BK487.out 3).trans rfl, (blk_cell BK487.out 4).trans rfl⟩ (fun hHeld => ?_)
             clear hK K
             refine norm_ (a' := ?_) ?_ ?_
             rotate_left
             ·show Act.put _ (some 66) _ = _
              simp only [Act.put, List.setIfInBounds_toArray, List.set_cons_zero, List.set_cons_succ, i64_w, i32_w]
              rfl
             refine pure_ (i := 22) (N := some 67) (v := ?_) (a' := ?_) #[true, true, true, true, true, true, true, true, true, true, true, true, true, true, true, true, true, true, true, true, true, true, true, false] rfl rfl (any_of HT_.out (by kernel_rfl)) (fun _ _ _ h => h) (Or.inl ⟨by rfl, ?_⟩) ?_ ?_
             rotate_left
             ·intro w'
              go_simp
              with_reducible rfl
             rotate_left
             ·simp only [Act.put, List.setIfInBounds_toArray, List.set_cons_zero, List.set_cons_succ, i64_w, i32_w]
              rfl
             refine pure_ (i := 23) (N := some 68) (v := ?_) (a' := ?_) #[true, true, true, true, true, true, true, true, true, true, true, true, true, true, true, true, true, true, true, true, true, true, true, true] rfl rfl (any_of HT_.out (by kernel_rfl)) (fun _ _ _ h => h) (Or.inl ⟨by rfl, ?_⟩) ?_ ?_
             rotate_left
             ·intro w'
              go_simp
              with_reducible rfl
             rotate_left
             ·simp only [Act.put, List.setIfInBounds_toArray, List.set_cons_zero, List.set_cons_succ, i64_w, i32_w]
              rfl
             refine done_ (done_of HT_.out (by kernel_rfl)) ?_
             try go_wp2
             go_roundg k1
             case measure => have := HK1.out; omega
             case rel => exact ⟨(wrap64 (x40_1 + 1)), (by first | rfl | (simp; done) | (simp [*]; done)), H', ⟨by have := HK1.out; omega⟩, ⟨by (with_reducible repeat (first | apply Kd.R_alloc | apply Kd.R_drewN | apply Kd.R_drew)); exact Kd.R_mono HO_38.out (fun _ hk => trivial)⟩, ⟨by (with_reducible repeat (first | apply Kd.R_alloc | apply Kd.R_drewN | apply Kd.R_drew)); exact HO_488000.out⟩, ⟨by (with_reducible repeat (first | apply Kd.R_alloc | apply Kd.R_drewN | apply Kd.R_drew)); exact HO_488001.out⟩, ⟨by (with_reducible repeat (first | refine blk_drewN ?_ _ | refine blk_drew ?_ | refine blk_alloc ?_ _)); exact BK487.out⟩, ⟨by repeat (first | (with_reducible first | exact HB.out | apply below_alloc | apply pw_below_drewN | apply below_drew1 | refine below_set ?_ GE487.out | refine below_set ?_ GE494.out) | exact HB.out)⟩⟩
            ·rw [if_neg c27] at H
             have c27b0 : (((rd_T52 t489 x40_1).f1) == t496) = false := beq_eq_false_iff_ne.mpr c27
             have c27b1 : (((rd_T52 t489 x40_1).f1) != t496) = true := bne_iff_ne.mpr c27
             exact absurd H (by rw [hrt.out]; simp)
           ·rw [if_neg c25] at H
            have c25b0 : (((rd_T52 t489 x40_1).f1) == t495) = false := beq_eq_false_iff_ne.mpr c25
            have c25b1 : (((rd_T52 t489 x40_1).f1) != t495) = true := bne_iff_ne.mpr c25
            exact absurd H (by rw [hrt.out]; simp)
          ·rw [if_neg c23] at H
           have c23b0 : (((rd_T52 t489 x40_1).f0) == (wrap64 (x40_1 * (wrap64 (1 + (wrap64 (Int.tdiv t481 (wrap64 (1 + (Int.tmod t488 20)))))))))) = false := beq_eq_false_iff_ne.mpr c23
           have c23b1 : (((rd_T52 t489 x40_1).f0) != (wrap64 (x40_1 * (wrap64 (1 + (wrap64 (Int.tdiv t481 (wrap64 (1 + (Int.tmod t488 20)))))))))) = true := bne_iff_ne.mpr c23
           exact absurd H (by rw [hrt.out]; simp)
         ·rw [if_neg c22] at H
          exact absurd H (by simp)
        ·rw [if_neg c21] at H
         exact absurd H (by simp)
       ·rw [if_neg c20] at H
        have c20b0 : decide (x40_1 < (t489.length : Int)) = false := decide_eq_false c20
        clear c20
        replace H := Option.bind_eq_some_iff.mp H
        obtain ⟨t492, A350, H⟩ := H
        replace H : (some (t492 == 0)) = some r := H
        have A35 := Aside0.mk A350
        clear A350
        obtain rfl := Option.some.inj H
        have hcz36_0 : wr.cell? ⟨gb487, 0, none⟩ = some (.slice Ao11 t474.length co11) := (blk_cell BK487.out 0).trans rfl
        have hcz36_1 : wr.cell? ⟨gb487, 1, none⟩ = some (.slice Ao13 t477.length co13) := (blk_cell BK487.out 1).trans rfl
        have hcz36_2 : wr.cell? ⟨gb487, 2, none⟩ = some (.int .i64 t480) := (blk_cell BK487.out 2).trans rfl
        have hcz36_3 : wr.cell? ⟨gb487, 3, none⟩ = some (.int .i64 t481) := (blk_cell BK487.out 3).trans rfl
        have hcz36_4 : wr.cell? ⟨gb487, 4, none⟩ = some (.int .i64 t482) := (blk_cell BK487.out 4).trans rfl
        have hfz36_0 := blk_frozen BK487.out 0
        have hfz36_1 := blk_frozen BK487.out 1
        have hfz36_2 := blk_frozen BK487.out 2
        have hfz36_3 := blk_frozen BK487.out 3
        have hfz36_4 := blk_frozen BK487.out 4
        go_wp2_with (first | ((with_reducible refine gate_callee (f := 23) rfl ?_); refine goesL_ (some 73) rfl rfl Try.func23 (by kernel_rfl) rfl #[.agg #[.slice Ao11 t474.length co11, .slice Ao13 t477.length co13, .int .i64 t480, .int .i64 t481, .int .i64 t482], .int .i64 t481] rfl (by (try simp only [List.map_toArray, List.map_cons, List.map_nil]); first | done | rfl | (simp only [List.length_drop, List.length_take]; rfl)) ?_; (with_reducible refine (impl_MostNow.calls k1 _ _ t474 _ _ t477 t480 t481 t482 t481 t492 _ ?side1 ?side2 ?side3 ?side4 A35.out).mono ?_); (case side1 => repeat (first | exact (Kd.R_reads' HO_488000.out).2.2 | (with_reducible refine Kd.C_alloc ?_ _) | (with_reducible refine Kd.C_drewN ?_ _) | (with_reducible refine Kd.C_drew ?_))); (case side2 => exact (Kd.R_reads' HO_488000.out).2.1); (case side3 => repeat (first | exact (Kd.R_reads' HO_488001.out).2.2 | (with_reducible refine Kd.C_alloc ?_ _) | (with_reducible refine Kd.C_drewN ?_ _) | (with_reducible refine Kd.C_drew ?_))); (case side4 => exact (Kd.R_reads' HO_488001.out).2.1); rintro e w37 ⟨rfl, hb⟩; refine ⟨_, rfl, ?_⟩; have n0_ := Aside0.mk (Kd.R_below (by (with_reducible repeat (first | apply Kd.R_alloc | apply Kd.R_drewN | apply Kd.R_drew)); exact HO_38.out) hb); have n1_ := Aside0.mk (Kd.R_below (by (with_reducible repeat (first | apply Kd.R_alloc | apply Kd.R_drewN | apply Kd.R_drew)); exact HO_488000.out) hb); have n2_ := Aside0.mk (Kd.R_below (by (with_reducible repeat (first | apply Kd.R_alloc | apply Kd.R_drewN | apply Kd.R_drew)); exact HO_488001.out) hb); have n3_ := Aside0.mk (blk_below (g := gb487) (o := .cells #[.slice Ao11 t474.length co11, .slice Ao13 t477.length co13, .int .i64 t480, .int .i64 t481, .int .i64 t482] 26 (0, 0)) (by (with_reducible repeat (first | refine blk_drewN ?_ _ | refine blk_drew ?_ | refine blk_alloc ?_ _)); exact BK487.out) hb); have n4_ := Aside0.mk (below_step (by repeat (first | (with_reducible first | exact HB.out | apply below_alloc | apply pw_below_drewN | apply below_drew1 | refine below_set ?_ GE487.out) | exact HB.out)) hb); clear HO_38; clear HO_488000; clear HO_488001; clear BK487; clear HB; have HO_38 := n0_; have HO_488000 := n1_; have HO_488001 := n2_; have BK487 := n3_; have HB := n4_; clear n0_ n1_ n2_ n3_ n4_; (try clear hb); (try clear hb2); (try clear hk); (try clear hi)))
        go_ret
        exact ⟨by first | rfl | (simp [errW_none, errW_some] <;> rfl) | (simp [*, errW_none, errW_some] <;> rfl), by repeat (first | (with_reducible first | exact HB.out | apply below_alloc | apply pw_below_drewN | apply below_drew1 | refine below_set ?_ GE487.out) | exact HB.out)⟩
    ·rw [if_neg c8] at H
     have c8b0 : ((t489.length : Int) == (wrap64 ((wrap64 (Int.tdiv t481 (wrap64 (1 + (wrap64 (Int.tdiv t481 (wrap64 (1 + (Int.tmod t488 20))))))))) + 1))) = false := beq_eq_false_iff_ne.mpr c8
     have c8b1 : ((t489.length : Int) != (wrap64 ((wrap64 (Int.tdiv t481 (wrap64 (1 + (wrap64 (Int.tdiv t481 (wrap64 (1 + (Int.tmod t488 20))))))))) + 1))) = true := bne_iff_ne.mpr c8
     exact absurd H (by rw [hrt.out]; simp)

/-- THE ONE PURE STATEMENT of laws_FnCurve: yours. -/
def laws_FnCurve.Pure : Prop := ∀ (l0 : List Int), l0.length ≤ maxLen → l0.length * 1 ≤ 140737488351232 → (∀ x ∈ l0, (Lit.int .u8 x).wf = true) → ∃ k, laws_FnCurve.f k l0 = some true
theorem laws_FnCurve.walk (P : laws_FnCurve.Pure) (a0 : Option Addr) (len0 cap0 : Nat) (z0 : List Int) (w : World) (w0 : (a0 = none ∧ len0 = 0 ∧ cap0 = 0 ∧ z0 = []) ∨ ∃ x, a0 = some x ∧ len0 ≤ cap0 ∧ cap0 ≤ maxLen ∧ z0.length = cap0 ∧ (∀ i, i < z0.length → w.cell? (x.add i) = some (.int .u8 (z0.getD i 0))) ∧ ∀ n ∈ z0, (Lit.int .u8 n).wf = true) (y0 : len0 * 1 ≤ 140737488351232) :
  Calls Try.prog 7 #[.slice a0 len0 cap0] w fun e w' => e = .returned (.bool true) ∧ Below w.heap.size w w' := by
 obtain ⟨l0, rfl, hr0, hm0, hw0, hc0⟩ := ReadsInt.ofRowC w0
 obtain ⟨k, h⟩ := P l0 hm0 y0 hw0
 refine (laws_FnCurve.calls k _ _ l0 true w (Kd.C_of_reads (d := (0 : Int)) (h1 := fun _ => rfl) hr0) hc0 ⟨rfl⟩ h).mono ?_
 rintro e w' ⟨rfl, hd⟩
 exact ⟨rfl, hd⟩

end Go.Proofs.Ytanjbdgmnecacaa.PA
