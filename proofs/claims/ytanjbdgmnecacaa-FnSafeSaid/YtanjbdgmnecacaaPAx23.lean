-- Written by a program of this session (wip/print/myprint.py) over the kit's print, with contracts of its own; not a text of print.sh's.
import Derived.Test.YtanjbdgmnecacaaPAx0
import Derived.Test.YtanjbdgmnecacaaPAx6
import Derived.Test.YtanjbdgmnecacaaPAx9
import Derived.Test.YtanjbdgmnecacaaPAx20
import Derived.Test.YtanjbdgmnecacaaPAx22
namespace Go.Proofs.Ytanjbdgmnecacaa.PA
open Go.RowKit Go.Proofs.YtanjbdgmnecacaaW.PrintWords Go.Proofs.YtanjbdgmnecacaaW.PrintLast Go.Proofs.YtanjbdgmnecacaaW.PrintMore
attribute [local go_sem] max2_int min2_int max_two min_two   -- for this text's walks alone
set_option linter.unusedVariables false
set_option linter.unusedSimpArgs false

/-! ### laws_FnSafe: function 6 -/
mutual
def laws_FnSafe.j0 : Nat → List Int → Int → Int → Bool → List (S39) → List (S45) → Int → Int → Int → Option (Bool)
 | 0, _, _, _, _, _, _, _, _, _ => none
 | k + 1, x0, x4, x6, x44, x460000, x460001, x460002, x460003, x460004 => if x44 = true then (some false) else (laws_FnSafe.l0 k x0 x4 x6 0 x460000 x460001 x460002 x460003 x460004)
def laws_FnSafe.l0 : Nat → List Int → Int → Int → Int → List (S39) → List (S45) → Int → Int → Int → Option (Bool)
 | 0, _, _, _, _, _, _, _, _, _ => none
 | k + 1, x0, x4, x6, x7, x460000, x460001, x460002, x460003, x460004 => if x7 < 12 then ((laws_wByte.f x0 x7).bind fun t465 => ((impl_Safe.f k x460000 x460001 x460002 x460003 x460004 x4 (wrap64 (Int.tdiv (wrap64 (x6 * t465)) 255))).bind fun t466 => (if t466 = true then ((spec_Safe.f k x460000 x460001 x460002 x460003 x460004 x4 (wrap64 (Int.tdiv (wrap64 (x6 * t465)) 255))).bind fun t467 => (laws_FnSafe.j2 k x0 x4 x6 x7 (wrap64 (Int.tdiv (wrap64 (x6 * t465)) 255)) (!t467) x460000 x460001 x460002 x460003 x460004)) else (laws_FnSafe.j2 k x0 x4 x6 x7 (wrap64 (Int.tdiv (wrap64 (x6 * t465)) 255)) true x460000 x460001 x460002 x460003 x460004)))) else ((spec_MostNow.f k x460000 x460001 x460002 x460003 x460004 x4).bind fun t464 => (some (x6 == t464)))
def laws_FnSafe.j2 : Nat → List Int → Int → Int → Int → Int → Bool → List (S39) → List (S45) → Int → Int → Int → Option (Bool)
 | 0, _, _, _, _, _, _, _, _, _, _, _ => none
 | k + 1, x0, x4, x6, x7, x8, x66, x460000, x460001, x460002, x460003, x460004 => if x66 = true then (some false) else (if x8 > 0 then (if (wrap64 (x4 + (wrap64 (x8 * (wrap64 (x460004 + 1)))))) > x460003 then (some false) else (laws_FnSafe.l0 k x0 x4 x6 (wrap64 (x7 + 1)) x460000 x460001 x460002 x460003 x460004)) else (laws_FnSafe.l0 k x0 x4 x6 (wrap64 (x7 + 1)) x460000 x460001 x460002 x460003 x460004))
end
def laws_FnSafe.f (k : Nat) (l0 : List Int) : Option (Bool) := if (l0.length : Int) > 1048576 then (some true) else ((spec_Profiles.f k l0).bind fun bt446 => ((impl_MostNow.f k bt446.1 bt446.2.1 bt446.2.2.1 bt446.2.2.2.1 bt446.2.2.2.2.1 bt446.2.2.2.2.2.1).bind fun t460 => (if t460 < 0 then (laws_FnSafe.j0 k l0 bt446.2.2.2.2.2.1 t460 true bt446.1 bt446.2.1 bt446.2.2.1 bt446.2.2.2.1 bt446.2.2.2.2.1) else (if t460 > 10000 then (laws_FnSafe.j0 k l0 bt446.2.2.2.2.2.1 t460 true bt446.1 bt446.2.1 bt446.2.2.1 bt446.2.2.2.1 bt446.2.2.2.2.1) else (if t460 < 10000 then ((impl_Safe.f k bt446.1 bt446.2.1 bt446.2.2.1 bt446.2.2.2.1 bt446.2.2.2.2.1 bt446.2.2.2.2.2.1 (wrap64 (t460 + 1))).bind fun t461 => (if t461 = true then (laws_FnSafe.j0 k l0 bt446.2.2.2.2.2.1 t460 true bt446.1 bt446.2.1 bt446.2.2.1 bt446.2.2.2.1 bt446.2.2.2.2.1) else ((impl_Safe.f k bt446.1 bt446.2.1 bt446.2.2.1 bt446.2.2.2.1 bt446.2.2.2.2.1 bt446.2.2.2.2.2.1 0).bind fun t462 => (laws_FnSafe.j0 k l0 bt446.2.2.2.2.2.1 t460 (!t462) bt446.1 bt446.2.1 bt446.2.2.1 bt446.2.2.2.1 bt446.2.2.2.2.1)))) else ((impl_Safe.f k bt446.1 bt446.2.1 bt446.2.2.1 bt446.2.2.2.1 bt446.2.2.2.2.1 bt446.2.2.2.2.2.1 0).bind fun t463 => (laws_FnSafe.j0 k l0 bt446.2.2.2.2.2.1 t460 (!t463) bt446.1 bt446.2.1 bt446.2.2.1 bt446.2.2.2.1 bt446.2.2.2.2.1)))))))
theorem laws_FnSafe.mono_l : ∀ k, (∀ y0 y1 y2 y3 y4 y5 y6 y7 y8, LeO (laws_FnSafe.j0 k y0 y1 y2 y3 y4 y5 y6 y7 y8) (laws_FnSafe.j0 (k + 1) y0 y1 y2 y3 y4 y5 y6 y7 y8)) ∧ (∀ y0 y1 y2 y3 y4 y5 y6 y7 y8, LeO (laws_FnSafe.l0 k y0 y1 y2 y3 y4 y5 y6 y7 y8) (laws_FnSafe.l0 (k + 1) y0 y1 y2 y3 y4 y5 y6 y7 y8)) ∧ (∀ y0 y1 y2 y3 y4 y5 y6 y7 y8 y9 y10, LeO (laws_FnSafe.j2 k y0 y1 y2 y3 y4 y5 y6 y7 y8 y9 y10) (laws_FnSafe.j2 (k + 1) y0 y1 y2 y3 y4 y5 y6 y7 y8 y9 y10))
 | 0 => ⟨fun _ _ _ _ _ _ _ _ _ r h => by simp [laws_FnSafe.j0] at h, fun _ _ _ _ _ _ _ _ _ r h => by simp [laws_FnSafe.l0] at h, fun _ _ _ _ _ _ _ _ _ _ _ r h => by simp [laws_FnSafe.j2] at h⟩
 | k + 1 => by
  obtain ⟨ih0, ih1, ih2⟩ := laws_FnSafe.mono_l k
  refine ⟨?_, ?_, ?_⟩
  ·intro y0 y1 y2 y3 y4 y5 y6 y7 y8
   unfold laws_FnSafe.j0
   repeat' first
   | (with_reducible exact ih0 _ _ _ _ _ _ _ _ _)
   | (with_reducible exact ih1 _ _ _ _ _ _ _ _ _)
   | (with_reducible exact ih2 _ _ _ _ _ _ _ _ _ _ _)
   | (with_reducible exact impl_MostNow.mono _ _ _ _ _ _ _)
   | (with_reducible exact impl_Safe.mono _ _ _ _ _ _ _ _)
   | (with_reducible exact spec_MostNow.mono _ _ _ _ _ _ _)
   | (with_reducible exact spec_Profiles.mono _ _)
   | (with_reducible exact spec_Safe.mono _ _ _ _ _ _ _ _)
   | (with_reducible exact LeO.refl _)
   | (with_reducible exact LeO.none _)
   | (with_reducible refine LeO.ite ?_ ?_)
   | (with_reducible refine LeO.bind ?_ (fun _ => ?_))
   | exact ih0 _ _ _ _ _ _ _ _ _
   | exact ih1 _ _ _ _ _ _ _ _ _
   | exact ih2 _ _ _ _ _ _ _ _ _ _ _
   | exact impl_MostNow.mono _ _ _ _ _ _ _
   | exact impl_Safe.mono _ _ _ _ _ _ _ _
   | exact spec_MostNow.mono _ _ _ _ _ _ _
   | exact spec_Profiles.mono _ _
   | exact spec_Safe.mono _ _ _ _ _ _ _ _
   | exact LeO.none _
   | refine LeO.ite ?_ ?_
   | refine LeO.bind ?_ (fun _ => ?_)
  ·intro y0 y1 y2 y3 y4 y5 y6 y7 y8
   unfold laws_FnSafe.l0
   repeat' first
   | (with_reducible exact ih0 _ _ _ _ _ _ _ _ _)
   | (with_reducible exact ih1 _ _ _ _ _ _ _ _ _)
   | (with_reducible exact ih2 _ _ _ _ _ _ _ _ _ _ _)
   | (with_reducible exact impl_MostNow.mono _ _ _ _ _ _ _)
   | (with_reducible exact impl_Safe.mono _ _ _ _ _ _ _ _)
   | (with_reducible exact spec_MostNow.mono _ _ _ _ _ _ _)
   | (with_reducible exact spec_Profiles.mono _ _)
   | (with_reducible exact spec_Safe.mono _ _ _ _ _ _ _ _)
   | (with_reducible exact LeO.refl _)
   | (with_reducible exact LeO.none _)
   | (with_reducible refine LeO.ite ?_ ?_)
   | (with_reducible refine LeO.bind ?_ (fun _ => ?_))
   | exact ih0 _ _ _ _ _ _ _ _ _
   | exact ih1 _ _ _ _ _ _ _ _ _
   | exact ih2 _ _ _ _ _ _ _ _ _ _ _
   | exact impl_MostNow.mono _ _ _ _ _ _ _
   | exact impl_Safe.mono _ _ _ _ _ _ _ _
   | exact spec_MostNow.mono _ _ _ _ _ _ _
   | exact spec_Profiles.mono _ _
   | exact spec_Safe.mono _ _ _ _ _ _ _ _
   | exact LeO.none _
   | refine LeO.ite ?_ ?_
   | refine LeO.bind ?_ (fun _ => ?_)
  ·intro y0 y1 y2 y3 y4 y5 y6 y7 y8 y9 y10
   unfold laws_FnSafe.j2
   repeat' first
   | (with_reducible exact ih0 _ _ _ _ _ _ _ _ _)
   | (with_reducible exact ih1 _ _ _ _ _ _ _ _ _)
   | (with_reducible exact ih2 _ _ _ _ _ _ _ _ _ _ _)
   | (with_reducible exact impl_MostNow.mono _ _ _ _ _ _ _)
   | (with_reducible exact impl_Safe.mono _ _ _ _ _ _ _ _)
   | (with_reducible exact spec_MostNow.mono _ _ _ _ _ _ _)
   | (with_reducible exact spec_Profiles.mono _ _)
   | (with_reducible exact spec_Safe.mono _ _ _ _ _ _ _ _)
   | (with_reducible exact LeO.refl _)
   | (with_reducible exact LeO.none _)
   | (with_reducible refine LeO.ite ?_ ?_)
   | (with_reducible refine LeO.bind ?_ (fun _ => ?_))
   | exact ih0 _ _ _ _ _ _ _ _ _
   | exact ih1 _ _ _ _ _ _ _ _ _
   | exact ih2 _ _ _ _ _ _ _ _ _ _ _
   | exact impl_MostNow.mono _ _ _ _ _ _ _
   | exact impl_Safe.mono _ _ _ _ _ _ _ _
   | exact spec_MostNow.mono _ _ _ _ _ _ _
   | exact spec_Profiles.mono _ _
   | exact spec_Safe.mono _ _ _ _ _ _ _ _
   | exact LeO.none _
   | refine LeO.ite ?_ ?_
   | refine LeO.bind ?_ (fun _ => ?_)
theorem laws_FnSafe.mono : ∀ a0 k, LeO (laws_FnSafe.f k a0) (laws_FnSafe.f (k + 1) a0) := by
 intro a0 k
 obtain ⟨ih0, ih1, ih2⟩ := laws_FnSafe.mono_l k
 unfold laws_FnSafe.f
 repeat' first
   | (with_reducible exact ih0 _ _ _ _ _ _ _ _ _)
   | (with_reducible exact ih1 _ _ _ _ _ _ _ _ _)
   | (with_reducible exact ih2 _ _ _ _ _ _ _ _ _ _ _)
   | (with_reducible exact impl_MostNow.mono _ _ _ _ _ _ _)
   | (with_reducible exact impl_Safe.mono _ _ _ _ _ _ _ _)
   | (with_reducible exact spec_MostNow.mono _ _ _ _ _ _ _)
   | (with_reducible exact spec_Profiles.mono _ _)
   | (with_reducible exact spec_Safe.mono _ _ _ _ _ _ _ _)
   | (with_reducible exact LeO.refl _)
   | (with_reducible exact LeO.none _)
   | (with_reducible refine LeO.ite ?_ ?_)
   | (with_reducible refine LeO.bind ?_ (fun _ => ?_))
   | exact ih0 _ _ _ _ _ _ _ _ _
   | exact ih1 _ _ _ _ _ _ _ _ _
   | exact ih2 _ _ _ _ _ _ _ _ _ _ _
   | exact impl_MostNow.mono _ _ _ _ _ _ _
   | exact impl_Safe.mono _ _ _ _ _ _ _ _
   | exact spec_MostNow.mono _ _ _ _ _ _ _
   | exact spec_Profiles.mono _ _
   | exact spec_Safe.mono _ _ _ _ _ _ _ _
   | exact LeO.none _
   | refine LeO.ite ?_ ?_
   | refine LeO.bind ?_ (fun _ => ?_)
theorem laws_FnSafe.j0_no : ∀ (k : Nat) (x0 : List Int) (x4 : Int) (x6 : Int) (x460000 : List (S39)) (x460001 : List (S45)) (x460002 : Int) (x460003 : Int) (x460004 : Int), ¬ laws_FnSafe.j0 k x0 x4 x6 true x460000 x460001 x460002 x460003 x460004 = some true := by
 intro k
 cases k <;> simp [laws_FnSafe.j0]
theorem laws_FnSafe.j2_no : ∀ (k : Nat) (x0 : List Int) (x4 : Int) (x6 : Int) (x7 : Int) (x8 : Int) (x460000 : List (S39)) (x460001 : List (S45)) (x460002 : Int) (x460003 : Int) (x460004 : Int), ¬ laws_FnSafe.j2 k x0 x4 x6 x7 x8 true x460000 x460001 x460002 x460003 x460004 = some true := by
 intro k
 cases k <;> simp [laws_FnSafe.j2]
set_option maxHeartbeats 8000000 in
set_option maxRecDepth 100000 in
theorem laws_FnSafe.calls (k : Nat) (A0 : Option Addr) (c0 : Nat) (l0 : List Int) (r : Bool) (w : World) (hr0 : Kd.C (Kd.int .u8) w A0 l0.length l0) (hc0 : l0.length ≤ c0) (hrt : Aside0 (r = true)) (h : laws_FnSafe.f k l0 = some r) :
  Calls Try.prog 6 #[.slice A0 l0.length c0] w fun e w' => e = .returned (.bool r) ∧ Below w.heap.size w w' := by
 have hu26 := Try.underlying26
 have HR0 := Aside0.mk hr0
 have HC0 := Aside0.mk hc0
 clear hr0 hc0
 have HB := Aside0.mk (Below.refl w.heap.size w)
 have H : (if (l0.length : Int) > 1048576 then (some true) else ((spec_Profiles.f k l0).bind fun bt446 => ((impl_MostNow.f k bt446.1 bt446.2.1 bt446.2.2.1 bt446.2.2.2.1 bt446.2.2.2.2.1 bt446.2.2.2.2.2.1).bind fun t460 => (if t460 < 0 then (laws_FnSafe.j0 k l0 bt446.2.2.2.2.2.1 t460 true bt446.1 bt446.2.1 bt446.2.2.1 bt446.2.2.2.1 bt446.2.2.2.2.1) else (if t460 > 10000 then (laws_FnSafe.j0 k l0 bt446.2.2.2.2.2.1 t460 true bt446.1 bt446.2.1 bt446.2.2.1 bt446.2.2.2.1 bt446.2.2.2.2.1) else (if t460 < 10000 then ((impl_Safe.f k bt446.1 bt446.2.1 bt446.2.2.1 bt446.2.2.2.1 bt446.2.2.2.2.1 bt446.2.2.2.2.2.1 (wrap64 (t460 + 1))).bind fun t461 => (if t461 = true then (laws_FnSafe.j0 k l0 bt446.2.2.2.2.2.1 t460 true bt446.1 bt446.2.1 bt446.2.2.1 bt446.2.2.2.1 bt446.2.2.2.2.1) else ((impl_Safe.f k bt446.1 bt446.2.1 bt446.2.2.1 bt446.2.2.2.1 bt446.2.2.2.2.1 bt446.2.2.2.2.2.1 0).bind fun t462 => (laws_FnSafe.j0 k l0 bt446.2.2.2.2.2.1 t460 (!t462) bt446.1 bt446.2.1 bt446.2.2.1 bt446.2.2.2.1 bt446.2.2.2.2.1)))) else ((impl_Safe.f k bt446.1 bt446.2.1 bt446.2.2.1 bt446.2.2.2.1 bt446.2.2.2.2.1 bt446.2.2.2.2.2.1 0).bind fun t463 => (laws_FnSafe.j0 k l0 bt446.2.2.2.2.2.1 t460 (!t463) bt446.1 bt446.2.1 bt446.2.2.1 bt446.2.2.2.1 bt446.2.2.2.2.1)))))))) = some r := h
 clear h
 by_cases c2 : (l0.length : Int) > 1048576
 ·rw [if_pos c2] at H
  have c2b0 : decide (1048576 < (l0.length : Int)) = true := decide_eq_true c2
  have c2b1 : decide (1048576 < l0.length) = true := decide_eq_true (by omega)
  clear c2
  obtain rfl := Option.some.inj H
  go_enter Try.func6, Try.ntmps6
  go_wp2
  go_ret
  exact ⟨by first | rfl | (simp [errW_none, errW_some] <;> rfl) | (simp [*, errW_none, errW_some] <;> rfl), by repeat (first | (with_reducible first | exact HB.out | apply below_alloc | apply pw_below_drewN | apply below_drew1) | exact HB.out)⟩
 ·rw [if_neg c2] at H
  have c2b0 : decide (1048576 < (l0.length : Int)) = false := decide_eq_false c2
  have c2b1 : decide (1048576 < l0.length) = false := decide_eq_false (by omega)
  clear c2
  replace H := Option.bind_eq_some_iff.mp H
  obtain ⟨⟨t446, t449, t452, t453, t454, t455, t456⟩, A30, H⟩ := H
  replace H : ((impl_MostNow.f k t446 t449 t452 t453 t454 t455).bind fun t460 => (if t460 < 0 then (laws_FnSafe.j0 k l0 t455 t460 true t446 t449 t452 t453 t454) else (if t460 > 10000 then (laws_FnSafe.j0 k l0 t455 t460 true t446 t449 t452 t453 t454) else (if t460 < 10000 then ((impl_Safe.f k t446 t449 t452 t453 t454 t455 (wrap64 (t460 + 1))).bind fun t461 => (if t461 = true then (laws_FnSafe.j0 k l0 t455 t460 true t446 t449 t452 t453 t454) else ((impl_Safe.f k t446 t449 t452 t453 t454 t455 0).bind fun t462 => (laws_FnSafe.j0 k l0 t455 t460 (!t462) t446 t449 t452 t453 t454)))) else ((impl_Safe.f k t446 t449 t452 t453 t454 t455 0).bind fun t463 => (laws_FnSafe.j0 k l0 t455 t460 (!t463) t446 t449 t452 t453 t454)))))) = some r := H
  have A3 := Aside0.mk A30
  clear A30
  replace H := Option.bind_eq_some_iff.mp H
  obtain ⟨t460, A40, H⟩ := H
  replace H : (if t460 < 0 then (laws_FnSafe.j0 k l0 t455 t460 true t446 t449 t452 t453 t454) else (if t460 > 10000 then (laws_FnSafe.j0 k l0 t455 t460 true t446 t449 t452 t453 t454) else (if t460 < 10000 then ((impl_Safe.f k t446 t449 t452 t453 t454 t455 (wrap64 (t460 + 1))).bind fun t461 => (if t461 = true then (laws_FnSafe.j0 k l0 t455 t460 true t446 t449 t452 t453 t454) else ((impl_Safe.f k t446 t449 t452 t453 t454 t455 0).bind fun t462 => (laws_FnSafe.j0 k l0 t455 t460 (!t462) t446 t449 t452 t453 t454)))) else ((impl_Safe.f k t446 t449 t452 t453 t454 t455 0).bind fun t463 => (laws_FnSafe.j0 k l0 t455 t460 (!t463) t446 t449 t452 t453 t454))))) = some r := H
  have A4 := Aside0.mk A40
  clear A40
  have HC5 := Aside0.mk H
  clear H
  go_enter Try.func6, Try.ntmps6
  go_upto_region 5 with (first | ((with_reducible refine gate_callee (f := 9) rfl ?_); refine goesL_ (some 15) rfl rfl Try.func9 (by kernel_rfl) rfl #[.slice A0 l0.length c0] rfl (by (try simp only [List.map_toArray, List.map_cons, List.map_nil]); first | done | rfl | (simp only [List.length_drop, List.length_take]; rfl)) ?_; (with_reducible refine (spec_Profiles.calls k _ _ l0 t446 t449 t452 t453 t454 t455 t456 _ ?side1 ?side2 A3.out).mono ?_); (case side1 => repeat (first | exact HR0.out | (with_reducible refine Kd.C_alloc ?_ _) | (with_reducible refine Kd.C_drewN ?_ _) | (with_reducible refine Kd.C_drew ?_))); (case side2 => exact HC0.out); rintro e w6 ⟨v447, v450, v457, rfl, ho0, ho1, ho2, hb⟩; refine ⟨_, rfl, ?_⟩; have n0_ := Aside0.mk (Kd.R_lower ho0 (below_size (by repeat (first | (with_reducible first | exact HB.out | apply below_alloc | apply pw_below_drewN | apply below_drew1) | exact HB.out)))); have n1_ := Aside0.mk (Kd.R_lower ho1 (below_size (by repeat (first | (with_reducible first | exact HB.out | apply below_alloc | apply pw_below_drewN | apply below_drew1) | exact HB.out)))); have n2_ := Aside0.mk (Kd.R_lower ho2 (below_size (by repeat (first | (with_reducible first | exact HB.out | apply below_alloc | apply pw_below_drewN | apply below_drew1) | exact HB.out)))); have n3_ := Aside0.mk (below_step (by repeat (first | (with_reducible first | exact HB.out | apply below_alloc | apply pw_below_drewN | apply below_drew1) | exact HB.out)) hb); clear HB; have HO448 := n0_; have HO451 := n1_; have HO458 := n2_; have HB := n3_; clear n0_ n1_ n2_ n3_; (try clear hb); (try clear hb2); (try clear hk); (try clear hi); (try clear ho0); (try clear ho1); (try clear ho2)) | ((with_reducible refine gate_dst (N := 3) rfl ?_); refine box_event ?hg (N := 3) ?hd (cs := #[.slice none 0 0, .slice none 0 0, .int .i64 0, .int .i64 0, .int .i64 0]) (t := 26) ?hr ?_; (case hd => rfl); (case hg => rfl); (case hr => first | (go_simp; done) | (go_simp; rfl)); intro gb459 hg w7 hbox hb; have n0_ := Aside0.mk (Kd.R_below (by (with_reducible repeat (first | apply Kd.R_alloc | apply Kd.R_drewN | apply Kd.R_drew)); exact HO448.out) hb); have n1_ := Aside0.mk (Kd.R_below (by (with_reducible repeat (first | apply Kd.R_alloc | apply Kd.R_drewN | apply Kd.R_drew)); exact HO451.out) hb); have n2_ := Aside0.mk (Kd.R_below (by (with_reducible repeat (first | apply Kd.R_alloc | apply Kd.R_drewN | apply Kd.R_drew)); exact HO458.out) hb); have n3_ := Aside0.mk (below_step (by repeat (first | (with_reducible first | exact HB.out | apply below_alloc | apply pw_below_drewN | apply below_drew1) | exact HB.out)) hb); have n4_ := Aside0.mk (hbox); have n5_ := Aside0.mk ((by rw [hg]; exact (below_size (by repeat (first | (with_reducible first | exact HB.out | apply below_alloc | apply pw_below_drewN | apply below_drew1) | exact HB.out))) : w.heap.size ≤ gb459)); have n6_ := Aside0.mk ((by rw [hg]; exact (below_size (by repeat (first | (with_reducible first | exact HB.out | apply below_alloc | apply pw_below_drewN | apply below_drew1) | exact HB.out))) : w.heap.size ≤ gb459)); clear HO448; clear HO451; clear HO458; clear HB; have HO448 := n0_; have HO451 := n1_; have HO458 := n2_; have HB := n3_; have BK459 := n4_; have GW459 := n5_; have GE459 := n6_; clear n0_ n1_ n2_ n3_ n4_ n5_ n6_; clear hb hbox hg; obtain ⟨Ao8, co8, eo8⟩ := Kd.R_slice HO448.out; subst eo8; have hcz9_0 : w7.cell? ⟨gb459, 0, none⟩ = some (.slice none 0 0) := (blk_cell BK459.out 0).trans rfl; have hcz9_1 : w7.cell? ⟨gb459, 1, none⟩ = some (.slice none 0 0) := (blk_cell BK459.out 1).trans rfl; have hcz9_2 : w7.cell? ⟨gb459, 2, none⟩ = some (.int .i64 0) := (blk_cell BK459.out 2).trans rfl; have hcz9_3 : w7.cell? ⟨gb459, 3, none⟩ = some (.int .i64 0) := (blk_cell BK459.out 3).trans rfl; have hcz9_4 : w7.cell? ⟨gb459, 4, none⟩ = some (.int .i64 0) := (blk_cell BK459.out 4).trans rfl; have hfz9_0 := blk_frozen BK459.out 0; have hfz9_1 := blk_frozen BK459.out 1; have hfz9_2 := blk_frozen BK459.out 2; have hfz9_3 := blk_frozen BK459.out 3; have hfz9_4 := blk_frozen BK459.out 4; obtain ⟨Ao10, co10, eo10⟩ := Kd.R_slice HO451.out; subst eo10) | ((with_reducible refine gate_callee (f := 23) rfl ?_); refine goesL_ (some 21) rfl rfl Try.func23 (by kernel_rfl) rfl #[.agg #[.slice Ao8 t446.length co8, .slice Ao10 t449.length co10, .int .i64 t452, .int .i64 t453, .int .i64 t454], .int .i64 t455] rfl (by (try simp only [List.map_toArray, List.map_cons, List.map_nil]); first | done | rfl | (simp only [List.length_drop, List.length_take]; rfl)) ?_; (with_reducible refine (impl_MostNow.calls k _ _ t446 _ _ t449 t452 t453 t454 t455 t460 _ ?side1 ?side2 ?side3 ?side4 A4.out).mono ?_); (case side1 => refine (Kd.R_reads' (e := 39) (base := w.heap.size) (ok := fun k_ => True) (n := t446.length) (c := co8) ?_).2.2; exact (by (with_reducible repeat (first | apply Kd.R_alloc | apply Kd.R_drewN | apply Kd.R_drew)); exact (Kd.R_mono (Kd.R_far (p := ⟨gb459, 4, none⟩) (Kd.R_far (p := ⟨gb459, 3, none⟩) (Kd.R_far (p := ⟨gb459, 2, none⟩) (Kd.R_far (p := ⟨gb459, 1, none⟩) (Kd.R_far (p := ⟨gb459, 0, none⟩) (Kd.R_types HO448.out BK459.out (by decide)) (fun _ hk => hk.2) (.slice Ao8 t446.length co8)) (fun _ hk => hk.2) (.slice Ao10 t449.length co10)) (fun _ hk => hk.2) (.int .i64 t452)) (fun _ hk => hk.2) (.int .i64 t453)) (fun _ hk => hk.2) (.int .i64 t454)) (fun _ h_ => h_.1)))); (case side2 => exact (Kd.R_reads' HO448.out).2.1); (case side3 => refine (Kd.R_reads' (e := 45) (base := w.heap.size) (ok := fun k_ => True) (n := t449.length) (c := co10) ?_).2.2; exact (by (with_reducible repeat (first | apply Kd.R_alloc | apply Kd.R_drewN | apply Kd.R_drew)); exact (Kd.R_mono (Kd.R_far (p := ⟨gb459, 4, none⟩) (Kd.R_far (p := ⟨gb459, 3, none⟩) (Kd.R_far (p := ⟨gb459, 2, none⟩) (Kd.R_far (p := ⟨gb459, 1, none⟩) (Kd.R_far (p := ⟨gb459, 0, none⟩) (Kd.R_types HO451.out BK459.out (by decide)) (fun _ hk => hk.2) (.slice Ao8 t446.length co8)) (fun _ hk => hk.2) (.slice Ao10 t449.length co10)) (fun _ hk => hk.2) (.int .i64 t452)) (fun _ hk => hk.2) (.int .i64 t453)) (fun _ hk => hk.2) (.int .i64 t454)) (fun _ h_ => h_.1)))); (case side4 => exact (Kd.R_reads' HO451.out).2.1); rintro e w11 ⟨rfl, hb⟩; refine ⟨_, rfl, ?_⟩; have n0_ := Aside0.mk (Kd.R_below (by (with_reducible repeat (first | apply Kd.R_alloc | apply Kd.R_drewN | apply Kd.R_drew)); exact (Kd.R_mono (Kd.R_far (p := ⟨gb459, 4, none⟩) (Kd.R_far (p := ⟨gb459, 3, none⟩) (Kd.R_far (p := ⟨gb459, 2, none⟩) (Kd.R_far (p := ⟨gb459, 1, none⟩) (Kd.R_far (p := ⟨gb459, 0, none⟩) (Kd.R_types HO448.out BK459.out (by decide)) (fun _ hk => hk.2) (.slice Ao8 t446.length co8)) (fun _ hk => hk.2) (.slice Ao10 t449.length co10)) (fun _ hk => hk.2) (.int .i64 t452)) (fun _ hk => hk.2) (.int .i64 t453)) (fun _ hk => hk.2) (.int .i64 t454)) (fun _ h_ => h_.1))) hb); have n1_ := Aside0.mk (Kd.R_below (by (with_reducible repeat (first | apply Kd.R_alloc | apply Kd.R_drewN | apply Kd.R_drew)); exact (Kd.R_mono (Kd.R_far (p := ⟨gb459, 4, none⟩) (Kd.R_far (p := ⟨gb459, 3, none⟩) (Kd.R_far (p := ⟨gb459, 2, none⟩) (Kd.R_far (p := ⟨gb459, 1, none⟩) (Kd.R_far (p := ⟨gb459, 0, none⟩) (Kd.R_types HO451.out BK459.out (by decide)) (fun _ hk => hk.2) (.slice Ao8 t446.length co8)) (fun _ hk => hk.2) (.slice Ao10 t449.length co10)) (fun _ hk => hk.2) (.int .i64 t452)) (fun _ hk => hk.2) (.int .i64 t453)) (fun _ hk => hk.2) (.int .i64 t454)) (fun _ h_ => h_.1))) hb); have n2_ := Aside0.mk (Kd.R_below (by (with_reducible repeat (first | apply Kd.R_alloc | apply Kd.R_drewN | apply Kd.R_drew)); exact (Kd.R_mono (Kd.R_far (p := ⟨gb459, 4, none⟩) (Kd.R_far (p := ⟨gb459, 3, none⟩) (Kd.R_far (p := ⟨gb459, 2, none⟩) (Kd.R_far (p := ⟨gb459, 1, none⟩) (Kd.R_far (p := ⟨gb459, 0, none⟩) (Kd.R_types HO458.out BK459.out (by decide)) (fun _ hk => hk.2) (.slice Ao8 t446.length co8)) (fun _ hk => hk.2) (.slice Ao10 t449.length co10)) (fun _ hk => hk.2) (.int .i64 t452)) (fun _ hk => hk.2) (.int .i64 t453)) (fun _ hk => hk.2) (.int .i64 t454)) (fun _ h_ => h_.1))) hb); have n3_ := Aside0.mk (blk_below (g := gb459) (o := .cells #[.slice Ao8 t446.length co8, .slice Ao10 t449.length co10, .int .i64 t452, .int .i64 t453, .int .i64 t454] 26 (0, 0)) (by (with_reducible repeat (first | refine blk_drewN ?_ _ | refine blk_drew ?_ | refine blk_alloc ?_ _)); refine blk_put (cs := #[.slice Ao8 t446.length co8, .slice Ao10 t449.length co10, .int .i64 t452, .int .i64 t453, .int .i64 0]) ?_ 4 _ rfl; (with_reducible repeat (first | refine blk_drewN ?_ _ | refine blk_drew ?_ | refine blk_alloc ?_ _)); refine blk_put (cs := #[.slice Ao8 t446.length co8, .slice Ao10 t449.length co10, .int .i64 t452, .int .i64 0, .int .i64 0]) ?_ 3 _ rfl; (with_reducible repeat (first | refine blk_drewN ?_ _ | refine blk_drew ?_ | refine blk_alloc ?_ _)); refine blk_put (cs := #[.slice Ao8 t446.length co8, .slice Ao10 t449.length co10, .int .i64 0, .int .i64 0, .int .i64 0]) ?_ 2 _ rfl; (with_reducible repeat (first | refine blk_drewN ?_ _ | refine blk_drew ?_ | refine blk_alloc ?_ _)); refine blk_put (cs := #[.slice Ao8 t446.length co8, .slice none 0 0, .int .i64 0, .int .i64 0, .int .i64 0]) ?_ 1 _ rfl; (with_reducible repeat (first | refine blk_drewN ?_ _ | refine blk_drew ?_ | refine blk_alloc ?_ _)); refine blk_put (cs := #[.slice none 0 0, .slice none 0 0, .int .i64 0, .int .i64 0, .int .i64 0]) ?_ 0 _ rfl; (with_reducible repeat (first | refine blk_drewN ?_ _ | refine blk_drew ?_ | refine blk_alloc ?_ _)); exact BK459.out) hb); have n4_ := Aside0.mk (below_step (by repeat (first | (with_reducible first | exact HB.out | apply below_alloc | apply pw_below_drewN | apply below_drew1 | refine below_set ?_ GE459.out) | exact HB.out)) hb); clear HO448; clear HO451; clear HO458; clear BK459; clear HB; have HO448 := n0_; have HO451 := n1_; have HO458 := n2_; have BK459 := n3_; have HB := n4_; clear n0_ n1_ n2_ n3_ n4_; (try clear hb); (try clear hb2); (try clear hk); (try clear hi)))
  (try simp only [Act.put, List.setIfInBounds_toArray, List.set_cons_zero, List.set_cons_succ])
  go_cut [44] (fun v44 wc => ∃ (kq : Nat) (x44_4 : Bool), v44 = .bool x44_4 ∧ Aside0 (laws_FnSafe.j0 kq l0 t455 t460 x44_4 t446 t449 t452 t453 t454 = some r) ∧ Aside0 (kq ≤ k) ∧ Aside0 (Kd.R k39 39 wc w.heap.size (fun _ => True) (.slice Ao8 t446.length co8) t446) ∧ Aside0 (Kd.R k45 45 wc w.heap.size (fun _ => True) (.slice Ao10 t449.length co10) t449) ∧ Aside0 (wc.heap[gb459]? = some (.cells #[(.slice Ao8 t446.length co8), (.slice Ao10 t449.length co10), .int .i64 t452, .int .i64 t453, .int .i64 t454] 26 (0, 0))) ∧ Aside0 (Below w.heap.size w wc))
  case first =>
   have H := HC5.out
   clear HC5
   by_cases c12 : t460 < 0
   ·rw [if_pos c12] at H
    have c12b0 : decide (t460 < 0) = true := decide_eq_true c12
    clear c12
    (first | rw [c12b0] | (simp only [i64_w, i32_w]; rw [c12b0]) | skip)
    exact absurd H (by rw [hrt.out]; apply laws_FnSafe.j0_no)
   ·rw [if_neg c12] at H
    have c12b0 : decide (t460 < 0) = false := decide_eq_false c12
    clear c12
    (first | rw [c12b0] | (simp only [i64_w, i32_w]; rw [c12b0]) | skip)
    by_cases c13 : t460 > 10000
    ·rw [if_pos c13] at H
     have c13b0 : decide (10000 < t460) = true := decide_eq_true c13
     clear c13
     exact absurd H (by rw [hrt.out]; apply laws_FnSafe.j0_no)
    ·rw [if_neg c13] at H
     have c13b0 : decide (10000 < t460) = false := decide_eq_false c13
     clear c13
     by_cases c14 : t460 < 10000
     ·rw [if_pos c14] at H
      have c14b0 : decide (t460 < 10000) = true := decide_eq_true c14
      clear c14
      replace H := Option.bind_eq_some_iff.mp H
      obtain ⟨t461, A150, H⟩ := H
      replace H : (if t461 = true then (laws_FnSafe.j0 k l0 t455 t460 true t446 t449 t452 t453 t454) else ((impl_Safe.f k t446 t449 t452 t453 t454 t455 0).bind fun t462 => (laws_FnSafe.j0 k l0 t455 t460 (!t462) t446 t449 t452 t453 t454))) = some r := H
      have A15 := Aside0.mk A150
      clear A150
      by_cases c16 : t461 = true
      ·subst c16
       have H1 : (laws_FnSafe.j0 k l0 t455 t460 true t446 t449 t452 t453 t454) = some r := by rw [if_pos rfl] at H; exact H
       clear H
       have H := H1
       clear H1
       exact absurd H (by rw [hrt.out]; apply laws_FnSafe.j0_no)
      ·replace c16 := Bool.eq_false_iff.mpr c16
       subst c16
       have H1 : ((impl_Safe.f k t446 t449 t452 t453 t454 t455 0).bind fun t462 => (laws_FnSafe.j0 k l0 t455 t460 (!t462) t446 t449 t452 t453 t454)) = some r := by rw [if_neg (show ¬ (false = true) by decide)] at H; exact H
       clear H
       have H := H1
       clear H1
       replace H := Option.bind_eq_some_iff.mp H
       obtain ⟨t462, A170, H⟩ := H
       replace H : (laws_FnSafe.j0 k l0 t455 t460 (!t462) t446 t449 t452 t453 t454) = some r := H
       have A17 := Aside0.mk A170
       clear A170
       have H' := Aside0.mk H
       clear H
       have hcz18_0 : w11.cell? ⟨gb459, 0, none⟩ = some (.slice Ao8 t446.length co8) := (blk_cell BK459.out 0).trans rfl
       have hcz18_1 : w11.cell? ⟨gb459, 1, none⟩ = some (.slice Ao10 t449.length co10) := (blk_cell BK459.out 1).trans rfl
       have hcz18_2 : w11.cell? ⟨gb459, 2, none⟩ = some (.int .i64 t452) := (blk_cell BK459.out 2).trans rfl
       have hcz18_3 : w11.cell? ⟨gb459, 3, none⟩ = some (.int .i64 t453) := (blk_cell BK459.out 3).trans rfl
       have hcz18_4 : w11.cell? ⟨gb459, 4, none⟩ = some (.int .i64 t454) := (blk_cell BK459.out 4).trans rfl
       have hfz18_0 := blk_frozen BK459.out 0
       have hfz18_1 := blk_frozen BK459.out 1
       have hfz18_2 := blk_frozen BK459.out 2
       have hfz18_3 := blk_frozen BK459.out 3
       have hfz18_4 := blk_frozen BK459.out 4
       go_wp2_with (first | (go_at_call 21; (with_reducible refine (impl_Safe.calls k _ _ t446 _ _ t449 t452 t453 t454 t455 (wrap64 (t460 + 1)) false _ ?side1 ?side2 ?side3 ?side4 A15.out).mono ?_); (case side1 => repeat (first | exact (Kd.R_reads' HO448.out).2.2 | (with_reducible refine Kd.C_alloc ?_ _) | (with_reducible refine Kd.C_drewN ?_ _) | (with_reducible refine Kd.C_drew ?_))); (case side2 => exact (Kd.R_reads' HO448.out).2.1); (case side3 => repeat (first | exact (Kd.R_reads' HO451.out).2.2 | (with_reducible refine Kd.C_alloc ?_ _) | (with_reducible refine Kd.C_drewN ?_ _) | (with_reducible refine Kd.C_drew ?_))); (case side4 => exact (Kd.R_reads' HO451.out).2.1); rintro e w19 ⟨rfl, hb⟩; have n0_ := Aside0.mk (Kd.R_below (by (with_reducible repeat (first | apply Kd.R_alloc | apply Kd.R_drewN | apply Kd.R_drew)); exact HO448.out) hb); have n1_ := Aside0.mk (Kd.R_below (by (with_reducible repeat (first | apply Kd.R_alloc | apply Kd.R_drewN | apply Kd.R_drew)); exact HO451.out) hb); have n2_ := Aside0.mk (Kd.R_below (by (with_reducible repeat (first | apply Kd.R_alloc | apply Kd.R_drewN | apply Kd.R_drew)); exact HO458.out) hb); have n3_ := Aside0.mk (blk_below (g := gb459) (o := .cells #[.slice Ao8 t446.length co8, .slice Ao10 t449.length co10, .int .i64 t452, .int .i64 t453, .int .i64 t454] 26 (0, 0)) (by (with_reducible repeat (first | refine blk_drewN ?_ _ | refine blk_drew ?_ | refine blk_alloc ?_ _)); exact BK459.out) hb); have n4_ := Aside0.mk (below_step (by repeat (first | (with_reducible first | exact HB.out | apply below_alloc | apply pw_below_drewN | apply below_drew1 | refine below_set ?_ GE459.out) | exact HB.out)) hb); clear HO448; clear HO451; clear HO458; clear BK459; clear HB; have HO448 := n0_; have HO451 := n1_; have HO458 := n2_; have BK459 := n3_; have HB := n4_; clear n0_ n1_ n2_ n3_ n4_; (try clear hb); (try clear hb2); (try clear hk); (try clear hi); have hcz20_0 : w19.cell? ⟨gb459, 0, none⟩ = some (.slice Ao8 t446.length co8) := (blk_cell BK459.out 0).trans rfl; have hcz20_1 : w19.cell? ⟨gb459, 1, none⟩ = some (.slice Ao10 t449.length co10) := (blk_cell BK459.out 1).trans rfl; have hcz20_2 : w19.cell? ⟨gb459, 2, none⟩ = some (.int .i64 t452) := (blk_cell BK459.out 2).trans rfl; have hcz20_3 : w19.cell? ⟨gb459, 3, none⟩ = some (.int .i64 t453) := (blk_cell BK459.out 3).trans rfl; have hcz20_4 : w19.cell? ⟨gb459, 4, none⟩ = some (.int .i64 t454) := (blk_cell BK459.out 4).trans rfl; have hfz20_0 := blk_frozen BK459.out 0; have hfz20_1 := blk_frozen BK459.out 1; have hfz20_2 := blk_frozen BK459.out 2; have hfz20_3 := blk_frozen BK459.out 3; have hfz20_4 := blk_frozen BK459.out 4) | (go_at_call 21; (with_reducible refine (impl_Safe.calls k _ _ t446 _ _ t449 t452 t453 t454 t455 0 t462 _ ?side1 ?side2 ?side3 ?side4 A17.out).mono ?_); (case side1 => repeat (first | exact (Kd.R_reads' HO448.out).2.2 | (with_reducible refine Kd.C_alloc ?_ _) | (with_reducible refine Kd.C_drewN ?_ _) | (with_reducible refine Kd.C_drew ?_))); (case side2 => exact (Kd.R_reads' HO448.out).2.1); (case side3 => repeat (first | exact (Kd.R_reads' HO451.out).2.2 | (with_reducible refine Kd.C_alloc ?_ _) | (with_reducible refine Kd.C_drewN ?_ _) | (with_reducible refine Kd.C_drew ?_))); (case side4 => exact (Kd.R_reads' HO451.out).2.1); rintro e w21 ⟨rfl, hb⟩; have n0_ := Aside0.mk (Kd.R_below (by (with_reducible repeat (first | apply Kd.R_alloc | apply Kd.R_drewN | apply Kd.R_drew)); exact HO448.out) hb); have n1_ := Aside0.mk (Kd.R_below (by (with_reducible repeat (first | apply Kd.R_alloc | apply Kd.R_drewN | apply Kd.R_drew)); exact HO451.out) hb); have n2_ := Aside0.mk (Kd.R_below (by (with_reducible repeat (first | apply Kd.R_alloc | apply Kd.R_drewN | apply Kd.R_drew)); exact HO458.out) hb); have n3_ := Aside0.mk (blk_below (g := gb459) (o := .cells #[.slice Ao8 t446.length co8, .slice Ao10 t449.length co10, .int .i64 t452, .int .i64 t453, .int .i64 t454] 26 (0, 0)) (by (with_reducible repeat (first | refine blk_drewN ?_ _ | refine blk_drew ?_ | refine blk_alloc ?_ _)); exact BK459.out) hb); have n4_ := Aside0.mk (below_step (by repeat (first | (with_reducible first | exact HB.out | apply below_alloc | apply pw_below_drewN | apply below_drew1 | refine below_set ?_ GE459.out) | exact HB.out)) hb); clear HO448; clear HO451; clear HO458; clear BK459; clear HB; have HO448 := n0_; have HO451 := n1_; have HO458 := n2_; have BK459 := n3_; have HB := n4_; clear n0_ n1_ n2_ n3_ n4_; (try clear hb); (try clear hb2); (try clear hk); (try clear hi)))
       go_meet
       case rel => exact ⟨_, (!t462), (by first | rfl | (simp; done) | (simp [*]; done)), H', ⟨by first | omega | exact Nat.le_refl _⟩, ⟨by (with_reducible repeat (first | apply Kd.R_alloc | apply Kd.R_drewN | apply Kd.R_drew)); exact HO448.out⟩, ⟨by (with_reducible repeat (first | apply Kd.R_alloc | apply Kd.R_drewN | apply Kd.R_drew)); exact HO451.out⟩, ⟨by (with_reducible repeat (first | refine blk_drewN ?_ _ | refine blk_drew ?_ | refine blk_alloc ?_ _)); exact BK459.out⟩, ⟨by repeat (first | (with_reducible first | exact HB.out | apply below_alloc | apply pw_below_drewN | apply below_drew1 | refine below_set ?_ GE459.out) | exact HB.out)⟩⟩
     ·rw [if_neg c14] at H
      have c14b0 : decide (t460 < 10000) = false := decide_eq_false c14
      clear c14
      replace H := Option.bind_eq_some_iff.mp H
      obtain ⟨t463, A220, H⟩ := H
      replace H : (laws_FnSafe.j0 k l0 t455 t460 (!t463) t446 t449 t452 t453 t454) = some r := H
      have A22 := Aside0.mk A220
      clear A220
      have H' := Aside0.mk H
      clear H
      have hcz23_0 : w11.cell? ⟨gb459, 0, none⟩ = some (.slice Ao8 t446.length co8) := (blk_cell BK459.out 0).trans rfl
      have hcz23_1 : w11.cell? ⟨gb459, 1, none⟩ = some (.slice Ao10 t449.length co10) := (blk_cell BK459.out 1).trans rfl
      have hcz23_2 : w11.cell? ⟨gb459, 2, none⟩ = some (.int .i64 t452) := (blk_cell BK459.out 2).trans rfl
      have hcz23_3 : w11.cell? ⟨gb459, 3, none⟩ = some (.int .i64 t453) := (blk_cell BK459.out 3).trans rfl
      have hcz23_4 : w11.cell? ⟨gb459, 4, none⟩ = some (.int .i64 t454) := (blk_cell BK459.out 4).trans rfl
      have hfz23_0 := blk_frozen BK459.out 0
      have hfz23_1 := blk_frozen BK459.out 1
      have hfz23_2 := blk_frozen BK459.out 2
      have hfz23_3 := blk_frozen BK459.out 3
      have hfz23_4 := blk_frozen BK459.out 4
      go_wp2_with (first | (go_at_call 21; (with_reducible refine (impl_Safe.calls k _ _ t446 _ _ t449 t452 t453 t454 t455 0 t463 _ ?side1 ?side2 ?side3 ?side4 A22.out).mono ?_); (case side1 => repeat (first | exact (Kd.R_reads' HO448.out).2.2 | (with_reducible refine Kd.C_alloc ?_ _) | (with_reducible refine Kd.C_drewN ?_ _) | (with_reducible refine Kd.C_drew ?_))); (case side2 => exact (Kd.R_reads' HO448.out).2.1); (case side3 => repeat (first | exact (Kd.R_reads' HO451.out).2.2 | (with_reducible refine Kd.C_alloc ?_ _) | (with_reducible refine Kd.C_drewN ?_ _) | (with_reducible refine Kd.C_drew ?_))); (case side4 => exact (Kd.R_reads' HO451.out).2.1); rintro e w24 ⟨rfl, hb⟩; have n0_ := Aside0.mk (Kd.R_below (by (with_reducible repeat (first | apply Kd.R_alloc | apply Kd.R_drewN | apply Kd.R_drew)); exact HO448.out) hb); have n1_ := Aside0.mk (Kd.R_below (by (with_reducible repeat (first | apply Kd.R_alloc | apply Kd.R_drewN | apply Kd.R_drew)); exact HO451.out) hb); have n2_ := Aside0.mk (Kd.R_below (by (with_reducible repeat (first | apply Kd.R_alloc | apply Kd.R_drewN | apply Kd.R_drew)); exact HO458.out) hb); have n3_ := Aside0.mk (blk_below (g := gb459) (o := .cells #[.slice Ao8 t446.length co8, .slice Ao10 t449.length co10, .int .i64 t452, .int .i64 t453, .int .i64 t454] 26 (0, 0)) (by (with_reducible repeat (first | refine blk_drewN ?_ _ | refine blk_drew ?_ | refine blk_alloc ?_ _)); exact BK459.out) hb); have n4_ := Aside0.mk (below_step (by repeat (first | (with_reducible first | exact HB.out | apply below_alloc | apply pw_below_drewN | apply below_drew1 | refine below_set ?_ GE459.out) | exact HB.out)) hb); clear HO448; clear HO451; clear HO458; clear BK459; clear HB; have HO448 := n0_; have HO451 := n1_; have HO458 := n2_; have BK459 := n3_; have HB := n4_; clear n0_ n1_ n2_ n3_ n4_; (try clear hb); (try clear hb2); (try clear hk); (try clear hi)))
      go_meet
      case rel => exact ⟨_, (!t463), (by first | rfl | (simp; done) | (simp [*]; done)), H', ⟨by first | omega | exact Nat.le_refl _⟩, ⟨by (with_reducible repeat (first | apply Kd.R_alloc | apply Kd.R_drewN | apply Kd.R_drew)); exact HO448.out⟩, ⟨by (with_reducible repeat (first | apply Kd.R_alloc | apply Kd.R_drewN | apply Kd.R_drew)); exact HO451.out⟩, ⟨by (with_reducible repeat (first | refine blk_drewN ?_ _ | refine blk_drew ?_ | refine blk_alloc ?_ _)); exact BK459.out⟩, ⟨by repeat (first | (with_reducible first | exact HB.out | apply below_alloc | apply pw_below_drewN | apply below_drew1 | refine below_set ?_ GE459.out) | exact HB.out)⟩⟩
  case rest =>
   clear HC5
   try clear c1
   try clear c2
   try clear c2b0
   try clear c2b1
   try clear p2
   try clear c6
   try clear p6
   try clear c9
   try clear c12
   try clear c12b0
   try clear c13
   try clear c13b0
   try clear c14
   try clear c14b0
   try clear c16
   try clear c23
   try clear hcz18_0
   try clear hcz18_1
   try clear hcz18_2
   try clear hcz18_3
   try clear hcz18_4
   try clear hcz20_0
   try clear hcz20_1
   try clear hcz20_2
   try clear hcz20_3
   try clear hcz20_4
   try clear hcz23_0
   try clear hcz23_1
   try clear hcz23_2
   try clear hcz23_3
   try clear hcz23_4
   try clear hcz9_0
   try clear hcz9_1
   try clear hcz9_2
   try clear hcz9_3
   try clear hcz9_4
   try clear hfz18_0
   try clear hfz18_1
   try clear hfz18_2
   try clear hfz18_3
   try clear hfz18_4
   try clear hfz20_0
   try clear hfz20_1
   try clear hfz20_2
   try clear hfz20_3
   try clear hfz20_4
   try clear hfz23_0
   try clear hfz23_1
   try clear hfz23_2
   try clear hfz23_3
   try clear hfz23_4
   try clear hfz9_0
   try clear hfz9_1
   try clear hfz9_2
   try clear hfz9_3
   try clear hfz9_4
   obtain ⟨kq, x44_4, rfl, HA, HJ4, HO_460000, HO_460001, BK459, HB⟩ := hcut
   cases kq with
   | zero => exact absurd HA.out (by simp [laws_FnSafe.j0])
   | succ kj4 =>
    have H := HA.out
    clear HA
    simp only [laws_FnSafe.j0] at H
    by_cases c25 : x44_4 = true
    ·subst c25
     have H1 : (some false) = some r := by rw [if_pos rfl] at H; exact H
     clear H
     have H := H1
     clear H1
     exact absurd H (by rw [hrt.out]; simp)
    ·replace c25 := Bool.eq_false_iff.mpr c25
     subst c25
     have H1 : (laws_FnSafe.l0 kj4 l0 t455 t460 0 t446 t449 t452 t453 t454) = some r := by rw [if_neg (show ¬ (false = true) by decide)] at H; exact H
     clear H
     have H := H1
     clear H1
     have H' := Aside0.mk H
     clear H
     go_wp2
     go_loopg [7] kj4 (fun kq v7 w' => ∃ (x7_2 : Int), v7 = .int .i64 x7_2 ∧ Aside0 (laws_FnSafe.l0 kq l0 t455 t460 x7_2 t446 t449 t452 t453 t454 = some r) ∧ Aside0 (kq ≤ kj4) ∧ Aside0 (Kd.R k39 39 w' w.heap.size (fun _ => True) (.slice Ao8 t446.length co8) t446) ∧ Aside0 (Kd.R k45 45 w' w.heap.size (fun _ => True) (.slice Ao10 t449.length co10) t449) ∧ Aside0 (w'.heap[gb459]? = some (.cells #[(.slice Ao8 t446.length co8), (.slice Ao10 t449.length co10), .int .i64 t452, .int .i64 t453, .int .i64 t454] 26 (0, 0))) ∧ Aside0 (Below w.heap.size w w'))
     case atStart => exact ⟨(0), (by first | rfl | (simp; done) | (simp [*]; done)), H', ⟨Nat.le_refl _⟩, ⟨by (with_reducible repeat (first | apply Kd.R_alloc | apply Kd.R_drewN | apply Kd.R_drew)); exact HO_460000.out⟩, ⟨by (with_reducible repeat (first | apply Kd.R_alloc | apply Kd.R_drewN | apply Kd.R_drew)); exact HO_460001.out⟩, ⟨by (with_reducible repeat (first | refine blk_drewN ?_ _ | refine blk_drew ?_ | refine blk_alloc ?_ _)); exact BK459.out⟩, ⟨by repeat (first | (with_reducible first | exact HB.out | apply below_alloc | apply pw_below_drewN | apply below_drew1 | refine below_set ?_ GE459.out) | exact HB.out)⟩⟩
     case round =>
      clear H'
      try clear c1
      try clear c2
      try clear c2b0
      try clear c2b1
      try clear p2
      try clear c6
      try clear p6
      try clear c9
      try clear c12
      try clear c12b0
      try clear c13
      try clear c13b0
      try clear c14
      try clear c14b0
      try clear c16
      try clear c23
      try clear c25
      try clear hcz18_0
      try clear hcz18_1
      try clear hcz18_2
      try clear hcz18_3
      try clear hcz18_4
      try clear hcz20_0
      try clear hcz20_1
      try clear hcz20_2
      try clear hcz20_3
      try clear hcz20_4
      try clear hcz23_0
      try clear hcz23_1
      try clear hcz23_2
      try clear hcz23_3
      try clear hcz23_4
      try clear hcz9_0
      try clear hcz9_1
      try clear hcz9_2
      try clear hcz9_3
      try clear hcz9_4
      try clear hfz18_0
      try clear hfz18_1
      try clear hfz18_2
      try clear hfz18_3
      try clear hfz18_4
      try clear hfz20_0
      try clear hfz20_1
      try clear hfz20_2
      try clear hfz20_3
      try clear hfz20_4
      try clear hfz23_0
      try clear hfz23_1
      try clear hfz23_2
      try clear hfz23_3
      try clear hfz23_4
      try clear hfz9_0
      try clear hfz9_1
      try clear hfz9_2
      try clear hfz9_3
      try clear hfz9_4
      try clear p2
      try clear p6
      obtain ⟨x7_2, rfl, HA, HK2, HO_460000, HO_460001, BK459, HB⟩ := hrel
      cases gk with
      | zero => exact absurd HA.out (by simp [laws_FnSafe.l0])
      | succ k2 =>
       have H := HA.out
       clear HA
       simp only [laws_FnSafe.l0] at H
       by_cases c26 : x7_2 < 12
       ·rw [if_pos c26] at H
        have c26b0 : decide (x7_2 < 12) = true := decide_eq_true c26
        clear c26
        replace H := Option.bind_eq_some_iff.mp H
        obtain ⟨t465, A270, H⟩ := H
        replace H : ((impl_Safe.f k2 t446 t449 t452 t453 t454 t455 (wrap64 (Int.tdiv (wrap64 (t460 * t465)) 255))).bind fun t466 => (if t466 = true then ((spec_Safe.f k2 t446 t449 t452 t453 t454 t455 (wrap64 (Int.tdiv (wrap64 (t460 * t465)) 255))).bind fun t467 => (laws_FnSafe.j2 k2 l0 t455 t460 x7_2 (wrap64 (Int.tdiv (wrap64 (t460 * t465)) 255)) (!t467) t446 t449 t452 t453 t454)) else (laws_FnSafe.j2 k2 l0 t455 t460 x7_2 (wrap64 (Int.tdiv (wrap64 (t460 * t465)) 255)) true t446 t449 t452 t453 t454))) = some r := H
        have A27 := Aside0.mk A270
        clear A270
        have HC28 := Aside0.mk H
        clear H
        go_upto_region 11 with (first | ((with_reducible refine gate_callee (f := 15) rfl ?_); refine goesL_ (some 52) rfl rfl Try.func15 (by kernel_rfl) rfl #[.slice A0 l0.length c0, .int .i64 x7_2] rfl (by (try simp only [List.map_toArray, List.map_cons, List.map_nil]); first | done | rfl | (simp only [List.length_drop, List.length_take]; rfl)) ?_; (with_reducible refine (laws_wByte.calls _ _ l0 x7_2 t465 _ ?side1 ?side2 A27.out).mono ?_); (case side1 => repeat (first | exact (Kd.C_below HR0.out HB.out) | (with_reducible refine Kd.C_alloc ?_ _) | (with_reducible refine Kd.C_drewN ?_ _) | (with_reducible refine Kd.C_drew ?_))); (case side2 => exact HC0.out); rintro e w' ⟨rfl, ⟨nd, rfl⟩⟩; refine ⟨_, rfl, ?_⟩))
        (try simp only [Act.put, List.setIfInBounds_toArray, List.set_cons_zero, List.set_cons_succ])
        go_cut [66] (fun v66 wc => ∃ (kq : Nat) (x66_27 : Bool), v66 = .bool x66_27 ∧ Aside0 (laws_FnSafe.j2 kq l0 t455 t460 x7_2 (wrap64 (Int.tdiv (wrap64 (t460 * t465)) 255)) x66_27 t446 t449 t452 t453 t454 = some r) ∧ Aside0 (kq ≤ k2) ∧ Aside0 (Kd.R k39 39 wc w.heap.size (fun _ => True) (.slice Ao8 t446.length co8) t446) ∧ Aside0 (Kd.R k45 45 wc w.heap.size (fun _ => True) (.slice Ao10 t449.length co10) t449) ∧ Aside0 (wc.heap[gb459]? = some (.cells #[(.slice Ao8 t446.length co8), (.slice Ao10 t449.length co10), .int .i64 t452, .int .i64 t453, .int .i64 t454] 26 (0, 0))) ∧ Aside0 (Below w.heap.size w wc))
        case first =>
         have H := HC28.out
         clear HC28
         replace H := Option.bind_eq_some_iff.mp H
         obtain ⟨t466, A290, H⟩ := H
         replace H : (if t466 = true then ((spec_Safe.f k2 t446 t449 t452 t453 t454 t455 (wrap64 (Int.tdiv (wrap64 (t460 * t465)) 255))).bind fun t467 => (laws_FnSafe.j2 k2 l0 t455 t460 x7_2 (wrap64 (Int.tdiv (wrap64 (t460 * t465)) 255)) (!t467) t446 t449 t452 t453 t454)) else (laws_FnSafe.j2 k2 l0 t455 t460 x7_2 (wrap64 (Int.tdiv (wrap64 (t460 * t465)) 255)) true t446 t449 t452 t453 t454)) = some r := H
         have A29 := Aside0.mk A290
         clear A290
         by_cases c30 : t466 = true
         ·subst c30
          have H1 : ((spec_Safe.f k2 t446 t449 t452 t453 t454 t455 (wrap64 (Int.tdiv (wrap64 (t460 * t465)) 255))).bind fun t467 => (laws_FnSafe.j2 k2 l0 t455 t460 x7_2 (wrap64 (Int.tdiv (wrap64 (t460 * t465)) 255)) (!t467) t446 t449 t452 t453 t454)) = some r := by rw [if_pos rfl] at H; exact H
          clear H
          have H := H1
          clear H1
          replace H := Option.bind_eq_some_iff.mp H
          obtain ⟨t467, A310, H⟩ := H
          replace H : (laws_FnSafe.j2 k2 l0 t455 t460 x7_2 (wrap64 (Int.tdiv (wrap64 (t460 * t465)) 255)) (!t467) t446 t449 t452 t453 t454) = some r := H
          have A31 := Aside0.mk A310
          clear A310
          have H' := Aside0.mk H
          clear H
          have hcz32_0 : wr.cell? ⟨gb459, 0, none⟩ = some (.slice Ao8 t446.length co8) := (blk_cell BK459.out 0).trans rfl
          have hcz32_1 : wr.cell? ⟨gb459, 1, none⟩ = some (.slice Ao10 t449.length co10) := (blk_cell BK459.out 1).trans rfl
          have hcz32_2 : wr.cell? ⟨gb459, 2, none⟩ = some (.int .i64 t452) := (blk_cell BK459.out 2).trans rfl
          have hcz32_3 : wr.cell? ⟨gb459, 3, none⟩ = some (.int .i64 t453) := (blk_cell BK459.out 3).trans rfl
          have hcz32_4 : wr.cell? ⟨gb459, 4, none⟩ = some (.int .i64 t454) := (blk_cell BK459.out 4).trans rfl
          have hfz32_0 := blk_frozen BK459.out 0
          have hfz32_1 := blk_frozen BK459.out 1
          have hfz32_2 := blk_frozen BK459.out 2
          have hfz32_3 := blk_frozen BK459.out 3
          have hfz32_4 := blk_frozen BK459.out 4
          go_wp2_with (first | ((with_reducible refine gate_callee (f := 21) rfl ?_); refine goesL_ (some 58) rfl rfl Try.func21 (by kernel_rfl) rfl #[.agg #[.slice Ao8 t446.length co8, .slice Ao10 t449.length co10, .int .i64 t452, .int .i64 t453, .int .i64 t454], .int .i64 t455, .int .i64 (wrap64 (Int.tdiv (wrap64 (t460 * t465)) 255))] rfl (by (try simp only [List.map_toArray, List.map_cons, List.map_nil]); first | done | rfl | (simp only [List.length_drop, List.length_take]; rfl)) ?_; (with_reducible refine (impl_Safe.calls k2 _ _ t446 _ _ t449 t452 t453 t454 t455 (wrap64 (Int.tdiv (wrap64 (t460 * t465)) 255)) true _ ?side1 ?side2 ?side3 ?side4 A29.out).mono ?_); (case side1 => repeat (first | exact (Kd.R_reads' HO_460000.out).2.2 | (with_reducible refine Kd.C_alloc ?_ _) | (with_reducible refine Kd.C_drewN ?_ _) | (with_reducible refine Kd.C_drew ?_))); (case side2 => exact (Kd.R_reads' HO_460000.out).2.1); (case side3 => repeat (first | exact (Kd.R_reads' HO_460001.out).2.2 | (with_reducible refine Kd.C_alloc ?_ _) | (with_reducible refine Kd.C_drewN ?_ _) | (with_reducible refine Kd.C_drew ?_))); (case side4 => exact (Kd.R_reads' HO_460001.out).2.1); rintro e w33 ⟨rfl, hb⟩; refine ⟨_, rfl, ?_⟩; have n0_ := Aside0.mk (Kd.R_below (by (with_reducible repeat (first | apply Kd.R_alloc | apply Kd.R_drewN | apply Kd.R_drew)); exact HO_460000.out) hb); have n1_ := Aside0.mk (Kd.R_below (by (with_reducible repeat (first | apply Kd.R_alloc | apply Kd.R_drewN | apply Kd.R_drew)); exact HO_460001.out) hb); have n2_ := Aside0.mk (blk_below (g := gb459) (o := .cells #[.slice Ao8 t446.length co8, .slice Ao10 t449.length co10, .int .i64 t452, .int .i64 t453, .int .i64 t454] 26 (0, 0)) (by (with_reducible repeat (first | refine blk_drewN ?_ _ | refine blk_drew ?_ | refine blk_alloc ?_ _)); exact BK459.out) hb); have n3_ := Aside0.mk (below_step (by repeat (first | (with_reducible first | exact HB.out | apply below_alloc | apply pw_below_drewN | apply below_drew1 | refine below_set ?_ GE459.out) | exact HB.out)) hb); clear HO_460000; clear HO_460001; clear BK459; clear HB; have HO_460000 := n0_; have HO_460001 := n1_; have BK459 := n2_; have HB := n3_; clear n0_ n1_ n2_ n3_; (try clear hb); (try clear hb2); (try clear hk); (try clear hi); have hcz34_0 : w33.cell? ⟨gb459, 0, none⟩ = some (.slice Ao8 t446.length co8) := (blk_cell BK459.out 0).trans rfl; have hcz34_1 : w33.cell? ⟨gb459, 1, none⟩ = some (.slice Ao10 t449.length co10) := (blk_cell BK459.out 1).trans rfl; have hcz34_2 : w33.cell? ⟨gb459, 2, none⟩ = some (.int .i64 t452) := (blk_cell BK459.out 2).trans rfl; have hcz34_3 : w33.cell? ⟨gb459, 3, none⟩ = some (.int .i64 t453) := (blk_cell BK459.out 3).trans rfl; have hcz34_4 : w33.cell? ⟨gb459, 4, none⟩ = some (.int .i64 t454) := (blk_cell BK459.out 4).trans rfl; have hfz34_0 := blk_frozen BK459.out 0; have hfz34_1 := blk_frozen BK459.out 1; have hfz34_2 := blk_frozen BK459.out 2; have hfz34_3 := blk_frozen BK459.out 3; have hfz34_4 := blk_frozen BK459.out 4) | (go_at_call 22; (with_reducible refine (spec_Safe.calls k2 _ _ t446 _ _ t449 t452 t453 t454 t455 (wrap64 (Int.tdiv (wrap64 (t460 * t465)) 255)) t467 _ ?side1 ?side2 ?side3 ?side4 A31.out).mono ?_); (case side1 => repeat (first | exact (Kd.R_reads' HO_460000.out).2.2 | (with_reducible refine Kd.C_alloc ?_ _) | (with_reducible refine Kd.C_drewN ?_ _) | (with_reducible refine Kd.C_drew ?_))); (case side2 => exact (Kd.R_reads' HO_460000.out).2.1); (case side3 => repeat (first | exact (Kd.R_reads' HO_460001.out).2.2 | (with_reducible refine Kd.C_alloc ?_ _) | (with_reducible refine Kd.C_drewN ?_ _) | (with_reducible refine Kd.C_drew ?_))); (case side4 => exact (Kd.R_reads' HO_460001.out).2.1); rintro e w35 ⟨rfl, hb⟩; have n0_ := Aside0.mk (Kd.R_below (by (with_reducible repeat (first | apply Kd.R_alloc | apply Kd.R_drewN | apply Kd.R_drew)); exact HO_460000.out) hb); have n1_ := Aside0.mk (Kd.R_below (by (with_reducible repeat (first | apply Kd.R_alloc | apply Kd.R_drewN | apply Kd.R_drew)); exact HO_460001.out) hb); have n2_ := Aside0.mk (blk_below (g := gb459) (o := .cells #[.slice Ao8 t446.length co8, .slice Ao10 t449.length co10, .int .i64 t452, .int .i64 t453, .int .i64 t454] 26 (0, 0)) (by (with_reducible repeat (first | refine blk_drewN ?_ _ | refine blk_drew ?_ | refine blk_alloc ?_ _)); exact BK459.out) hb); have n3_ := Aside0.mk (below_step (by repeat (first | (with_reducible first | exact HB.out | apply below_alloc | apply pw_below_drewN | apply below_drew1 | refine below_set ?_ GE459.out) | exact HB.out)) hb); clear HO_460000; clear HO_460001; clear BK459; clear HB; have HO_460000 := n0_; have HO_460001 := n1_; have BK459 := n2_; have HB := n3_; clear n0_ n1_ n2_ n3_; (try clear hb); (try clear hb2); (try clear hk); (try clear hi)))
          go_meet
          case rel => exact ⟨_, (!t467), (by first | rfl | (simp; done) | (simp [*]; done)), H', ⟨by have := HJ4.out; have := HK2.out; first | omega | exact Nat.le_refl _⟩, ⟨by (with_reducible repeat (first | apply Kd.R_alloc | apply Kd.R_drewN | apply Kd.R_drew)); exact HO_460000.out⟩, ⟨by (with_reducible repeat (first | apply Kd.R_alloc | apply Kd.R_drewN | apply Kd.R_drew)); exact HO_460001.out⟩, ⟨by (with_reducible repeat (first | refine blk_drewN ?_ _ | refine blk_drew ?_ | refine blk_alloc ?_ _)); exact BK459.out⟩, ⟨by repeat (first | (with_reducible first | exact HB.out | apply below_alloc | apply pw_below_drewN | apply below_drew1 | refine below_set ?_ GE459.out) | exact HB.out)⟩⟩
         ·replace c30 := Bool.eq_false_iff.mpr c30
          subst c30
          have H1 : (laws_FnSafe.j2 k2 l0 t455 t460 x7_2 (wrap64 (Int.tdiv (wrap64 (t460 * t465)) 255)) true t446 t449 t452 t453 t454) = some r := by rw [if_neg (show ¬ (false = true) by decide)] at H; exact H
          clear H
          have H := H1
          clear H1
          exact absurd H (by rw [hrt.out]; apply laws_FnSafe.j2_no)
        case rest =>
         clear HC28
         try clear c1
         try clear c2
         try clear c2b0
         try clear c2b1
         try clear p2
         try clear c3
         try clear c6
         try clear p6
         try clear c9
         try clear c12
         try clear c12b0
         try clear c13
         try clear c13b0
         try clear c14
         try clear c14b0
         try clear c15
         try clear c16
         try clear c21
         try clear c23
         try clear c25
         try clear c26
         try clear c26b0
         try clear c30
         try clear hcz18_0
         try clear hcz18_1
         try clear hcz18_2
         try clear hcz18_3
         try clear hcz18_4
         try clear hcz20_0
         try clear hcz20_1
         try clear hcz20_2
         try clear hcz20_3
         try clear hcz20_4
         try clear hcz23_0
         try clear hcz23_1
         try clear hcz23_2
         try clear hcz23_3
         try clear hcz23_4
         try clear hcz32_0
         try clear hcz32_1
         try clear hcz32_2
         try clear hcz32_3
         try clear hcz32_4
         try clear hcz34_0
         try clear hcz34_1
         try clear hcz34_2
         try clear hcz34_3
         try clear hcz34_4
         try clear hcz9_0
         try clear hcz9_1
         try clear hcz9_2
         try clear hcz9_3
         try clear hcz9_4
         try clear hfz18_0
         try clear hfz18_1
         try clear hfz18_2
         try clear hfz18_3
         try clear hfz18_4
         try clear hfz20_0
         try clear hfz20_1
         try clear hfz20_2
         try clear hfz20_3
         try clear hfz20_4
         try clear hfz23_0
         try clear hfz23_1
         try clear hfz23_2
         try clear hfz23_3
         try clear hfz23_4
         try clear hfz32_0
         try clear hfz32_1
         try clear hfz32_2
         try clear hfz32_3
         try clear hfz32_4
         try clear hfz34_0
         try clear hfz34_1
         try clear hfz34_2
         try clear hfz34_3
         try clear hfz34_4
         try clear hfz9_0
         try clear hfz9_1
         try clear hfz9_2
         try clear hfz9_3
         try clear hfz9_4
         try clear p2
         try clear p6
         obtain ⟨kq, x66_27, rfl, HA, HJ27, HO_460000, HO_460001, BK459, HB⟩ := hcut
         cases kq with
         | zero => exact absurd HA.out (by simp [laws_FnSafe.j2])
         | succ kj27 =>
          have H := HA.out
          clear HA
          simp only [laws_FnSafe.j2] at H
          by_cases c36 : x66_27 = true
          ·subst c36
           have H1 : (some false) = some r := by rw [if_pos rfl] at H; exact H
           clear H
           have H := H1
           clear H1
           exact absurd H (by rw [hrt.out]; simp)
          ·replace c36 := Bool.eq_false_iff.mpr c36
           subst c36
           have H1 : (if (wrap64 (Int.tdiv (wrap64 (t460 * t465)) 255)) > 0 then (if (wrap64 (t455 + (wrap64 ((wrap64 (Int.tdiv (wrap64 (t460 * t465)) 255)) * (wrap64 (t454 + 1)))))) > t453 then (some false) else (laws_FnSafe.l0 kj27 l0 t455 t460 (wrap64 (x7_2 + 1)) t446 t449 t452 t453 t454)) else (laws_FnSafe.l0 kj27 l0 t455 t460 (wrap64 (x7_2 + 1)) t446 t449 t452 t453 t454)) = some r := by rw [if_neg (show ¬ (false = true) by decide)] at H; exact H
           clear H
           have H := H1
           clear H1
           by_cases c37 : (wrap64 (Int.tdiv (wrap64 (t460 * t465)) 255)) > 0
           ·rw [if_pos c37] at H
            have c37b0 : decide (0 < (wrap64 (Int.tdiv (wrap64 (t460 * t465)) 255))) = true := decide_eq_true c37
            clear c37
            by_cases c38 : (wrap64 (t455 + (wrap64 ((wrap64 (Int.tdiv (wrap64 (t460 * t465)) 255)) * (wrap64 (t454 + 1)))))) > t453
            ·rw [if_pos c38] at H
             have c38b0 : decide (t453 < (wrap64 (t455 + (wrap64 ((wrap64 (Int.tdiv (wrap64 (t460 * t465)) 255)) * (wrap64 (t454 + 1))))))) = true := decide_eq_true c38
             clear c38
             exact absurd H (by rw [hrt.out]; simp)
            ·rw [if_neg c38] at H
             have c38b0 : decide (t453 < (wrap64 (t455 + (wrap64 ((wrap64 (Int.tdiv (wrap64 (t460 * t465)) 255)) * (wrap64 (t454 + 1))))))) = false := decide_eq_false c38
             clear c38
             have H' := Aside0.mk H
             clear H
             have hcz39_0 : wc.cell? ⟨gb459, 0, none⟩ = some (.slice Ao8 t446.length co8) := (blk_cell BK459.out 0).trans rfl
             have hcz39_1 : wc.cell? ⟨gb459, 1, none⟩ = some (.slice Ao10 t449.length co10) := (blk_cell BK459.out 1).trans rfl
             have hcz39_2 : wc.cell? ⟨gb459, 2, none⟩ = some (.int .i64 t452) := (blk_cell BK459.out 2).trans rfl
             have hcz39_3 : wc.cell? ⟨gb459, 3, none⟩ = some (.int .i64 t453) := (blk_cell BK459.out 3).trans rfl
             have hcz39_4 : wc.cell? ⟨gb459, 4, none⟩ = some (.int .i64 t454) := (blk_cell BK459.out 4).trans rfl
             have hfz39_0 := blk_frozen BK459.out 0
             have hfz39_1 := blk_frozen BK459.out 1
             have hfz39_2 := blk_frozen BK459.out 2
             have hfz39_3 := blk_frozen BK459.out 3
             have hfz39_4 := blk_frozen BK459.out 4
             go_wp2
             go_roundg kj27
             case measure => have := HJ4.out; have := HK2.out; have := HJ27.out; omega
             case rel => exact ⟨(wrap64 (x7_2 + 1)), (by first | rfl | (simp; done) | (simp [*]; done)), H', ⟨by have := HJ4.out; have := HK2.out; have := HJ27.out; omega⟩, ⟨by (with_reducible repeat (first | apply Kd.R_alloc | apply Kd.R_drewN | apply Kd.R_drew)); exact HO_460000.out⟩, ⟨by (with_reducible repeat (first | apply Kd.R_alloc | apply Kd.R_drewN | apply Kd.R_drew)); exact HO_460001.out⟩, ⟨by (with_reducible repeat (first | refine blk_drewN ?_ _ | refine blk_drew ?_ | refine blk_alloc ?_ _)); exact BK459.out⟩, ⟨by repeat (first | (with_reducible first | exact HB.out | apply below_alloc | apply pw_below_drewN | apply below_drew1 | refine below_set ?_ GE459.out) | exact HB.out)⟩⟩
           ·rw [if_neg c37] at H
            have c37b0 : decide (0 < (wrap64 (Int.tdiv (wrap64 (t460 * t465)) 255))) = false := decide_eq_false c37
            clear c37
            have H' := Aside0.mk H
            clear H
            have hcz40_0 : wc.cell? ⟨gb459, 0, none⟩ = some (.slice Ao8 t446.length co8) := (blk_cell BK459.out 0).trans rfl
            have hcz40_1 : wc.cell? ⟨gb459, 1, none⟩ = some (.slice Ao10 t449.length co10) := (blk_cell BK459.out 1).trans rfl
            have hcz40_2 : wc.cell? ⟨gb459, 2, none⟩ = some (.int .i64 t452) := (blk_cell BK459.out 2).trans rfl
            have hcz40_3 : wc.cell? ⟨gb459, 3, none⟩ = some (.int .i64 t453) := (blk_cell BK459.out 3).trans rfl
            have hcz40_4 : wc.cell? ⟨gb459, 4, none⟩ = some (.int .i64 t454) := (blk_cell BK459.out 4).trans rfl
            have hfz40_0 := blk_frozen BK459.out 0
            have hfz40_1 := blk_frozen BK459.out 1
            have hfz40_2 := blk_frozen BK459.out 2
            have hfz40_3 := blk_frozen BK459.out 3
            have hfz40_4 := blk_frozen BK459.out 4
            go_wp2
            go_roundg kj27
            case measure => have := HJ4.out; have := HK2.out; have := HJ27.out; omega
            case rel => exact ⟨(wrap64 (x7_2 + 1)), (by first | rfl | (simp; done) | (simp [*]; done)), H', ⟨by have := HJ4.out; have := HK2.out; have := HJ27.out; omega⟩, ⟨by (with_reducible repeat (first | apply Kd.R_alloc | apply Kd.R_drewN | apply Kd.R_drew)); exact HO_460000.out⟩, ⟨by (with_reducible repeat (first | apply Kd.R_alloc | apply Kd.R_drewN | apply Kd.R_drew)); exact HO_460001.out⟩, ⟨by (with_reducible repeat (first | refine blk_drewN ?_ _ | refine blk_drew ?_ | refine blk_alloc ?_ _)); exact BK459.out⟩, ⟨by repeat (first | (with_reducible first | exact HB.out | apply below_alloc | apply pw_below_drewN | apply below_drew1 | refine below_set ?_ GE459.out) | exact HB.out)⟩⟩
       ·rw [if_neg c26] at H
        have c26b0 : decide (x7_2 < 12) = false := decide_eq_false c26
        clear c26
        replace H := Option.bind_eq_some_iff.mp H
        obtain ⟨t464, A410, H⟩ := H
        replace H : (some (t460 == t464)) = some r := H
        have A41 := Aside0.mk A410
        clear A410
        obtain rfl := Option.some.inj H
        have hcz42_0 : wr.cell? ⟨gb459, 0, none⟩ = some (.slice Ao8 t446.length co8) := (blk_cell BK459.out 0).trans rfl
        have hcz42_1 : wr.cell? ⟨gb459, 1, none⟩ = some (.slice Ao10 t449.length co10) := (blk_cell BK459.out 1).trans rfl
        have hcz42_2 : wr.cell? ⟨gb459, 2, none⟩ = some (.int .i64 t452) := (blk_cell BK459.out 2).trans rfl
        have hcz42_3 : wr.cell? ⟨gb459, 3, none⟩ = some (.int .i64 t453) := (blk_cell BK459.out 3).trans rfl
        have hcz42_4 : wr.cell? ⟨gb459, 4, none⟩ = some (.int .i64 t454) := (blk_cell BK459.out 4).trans rfl
        have hfz42_0 := blk_frozen BK459.out 0
        have hfz42_1 := blk_frozen BK459.out 1
        have hfz42_2 := blk_frozen BK459.out 2
        have hfz42_3 := blk_frozen BK459.out 3
        have hfz42_4 := blk_frozen BK459.out 4
        go_wp2_with (first | ((with_reducible refine gate_callee (f := 24) rfl ?_); refine goesL_ (some 85) rfl rfl Try.func24 (by kernel_rfl) rfl #[.agg #[.slice Ao8 t446.length co8, .slice Ao10 t449.length co10, .int .i64 t452, .int .i64 t453, .int .i64 t454], .int .i64 t455] rfl (by (try simp only [List.map_toArray, List.map_cons, List.map_nil]); first | done | rfl | (simp only [List.length_drop, List.length_take]; rfl)) ?_; (with_reducible refine (spec_MostNow.calls k2 _ _ t446 _ _ t449 t452 t453 t454 t455 t464 _ ?side1 ?side2 ?side3 ?side4 A41.out).mono ?_); (case side1 => repeat (first | exact (Kd.R_reads' HO_460000.out).2.2 | (with_reducible refine Kd.C_alloc ?_ _) | (with_reducible refine Kd.C_drewN ?_ _) | (with_reducible refine Kd.C_drew ?_))); (case side2 => exact (Kd.R_reads' HO_460000.out).2.1); (case side3 => repeat (first | exact (Kd.R_reads' HO_460001.out).2.2 | (with_reducible refine Kd.C_alloc ?_ _) | (with_reducible refine Kd.C_drewN ?_ _) | (with_reducible refine Kd.C_drew ?_))); (case side4 => exact (Kd.R_reads' HO_460001.out).2.1); rintro e w43 ⟨rfl, hb⟩; refine ⟨_, rfl, ?_⟩; have n0_ := Aside0.mk (Kd.R_below (by (with_reducible repeat (first | apply Kd.R_alloc | apply Kd.R_drewN | apply Kd.R_drew)); exact HO_460000.out) hb); have n1_ := Aside0.mk (Kd.R_below (by (with_reducible repeat (first | apply Kd.R_alloc | apply Kd.R_drewN | apply Kd.R_drew)); exact HO_460001.out) hb); have n2_ := Aside0.mk (blk_below (g := gb459) (o := .cells #[.slice Ao8 t446.length co8, .slice Ao10 t449.length co10, .int .i64 t452, .int .i64 t453, .int .i64 t454] 26 (0, 0)) (by (with_reducible repeat (first | refine blk_drewN ?_ _ | refine blk_drew ?_ | refine blk_alloc ?_ _)); exact BK459.out) hb); have n3_ := Aside0.mk (below_step (by repeat (first | (with_reducible first | exact HB.out | apply below_alloc | apply pw_below_drewN | apply below_drew1 | refine below_set ?_ GE459.out) | exact HB.out)) hb); clear HO_460000; clear HO_460001; clear BK459; clear HB; have HO_460000 := n0_; have HO_460001 := n1_; have BK459 := n2_; have HB := n3_; clear n0_ n1_ n2_ n3_; (try clear hb); (try clear hb2); (try clear hk); (try clear hi)))
        go_ret
        exact ⟨by first | rfl | (simp [errW_none, errW_some] <;> rfl) | (simp [*, errW_none, errW_some] <;> rfl), by repeat (first | (with_reducible first | exact HB.out | apply below_alloc | apply pw_below_drewN | apply below_drew1 | refine below_set ?_ GE459.out) | exact HB.out)⟩

/-- THE ONE PURE STATEMENT of laws_FnSafe: yours. -/
def laws_FnSafe.Pure : Prop := ∀ (l0 : List Int), l0.length ≤ maxLen → l0.length * 1 ≤ 140737488351232 → (∀ x ∈ l0, (Lit.int .u8 x).wf = true) → ∃ k, laws_FnSafe.f k l0 = some true
theorem laws_FnSafe.walk (P : laws_FnSafe.Pure) (a0 : Option Addr) (len0 cap0 : Nat) (z0 : List Int) (w : World) (w0 : (a0 = none ∧ len0 = 0 ∧ cap0 = 0 ∧ z0 = []) ∨ ∃ x, a0 = some x ∧ len0 ≤ cap0 ∧ cap0 ≤ maxLen ∧ z0.length = cap0 ∧ (∀ i, i < z0.length → w.cell? (x.add i) = some (.int .u8 (z0.getD i 0))) ∧ ∀ n ∈ z0, (Lit.int .u8 n).wf = true) (y0 : len0 * 1 ≤ 140737488351232) :
  Calls Try.prog 6 #[.slice a0 len0 cap0] w fun e w' => e = .returned (.bool true) ∧ Below w.heap.size w w' := by
 obtain ⟨l0, rfl, hr0, hm0, hw0, hc0⟩ := ReadsInt.ofRowC w0
 obtain ⟨k, h⟩ := P l0 hm0 y0 hw0
 refine (laws_FnSafe.calls k _ _ l0 true w (Kd.C_of_reads (d := (0 : Int)) (h1 := fun _ => rfl) hr0) hc0 ⟨rfl⟩ h).mono ?_
 rintro e w' ⟨rfl, hd⟩
 exact ⟨rfl, hd⟩

end Go.Proofs.Ytanjbdgmnecacaa.PA
