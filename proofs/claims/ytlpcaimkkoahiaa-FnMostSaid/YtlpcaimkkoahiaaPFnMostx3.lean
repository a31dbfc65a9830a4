-- PRINTED BY print.sh 35421559b90ae4d0a3588c463048766b98c2df88dd9212a6774a882060cdf62d: not written by this session
import Derived.Test.YtlpcaimkkoahiaaPFnMostx0
import Derived.Test.YtlpcaimkkoahiaaPFnMostx1
import Derived.Test.YtlpcaimkkoahiaaPFnMostx2
namespace Go.Proofs.Ytlpcaimkkoahiaa.PFnMost
open Go.RowKit Go.Proofs.YtlpcaimkkoahiaaW.PrintWords Go.Proofs.YtlpcaimkkoahiaaW.PrintLast Go.Proofs.YtlpcaimkkoahiaaW.PrintMore
attribute [local go_sem] max2_int min2_int max_two min_two max_three min_three max_four min_four   -- for this text's walks alone
set_option linter.unusedVariables false
set_option linter.unusedSimpArgs false

/-! ### laws_FnMost: function 9 -/
mutual
def laws_FnMost.j0 : Nat → List Int → Int → Int → Int → Int → Int → Bool → Option (Bool)
  | 0, _, _, _, _, _, _, _ => none
  | k + 1, x0, x3, x4, x5, x6, x7, x67 => if x67 = true then (some false) else (if x7 < 10000 then ((spec_SlowLen.f k (wrap64 (x7 + 1)) x4 x5).bind fun t136 => (laws_FnMost.j1 k x0 x3 x4 (decide ((wrap64 ((wrap64 (x6 * (wrap64 (x7 + 1)))) + t136)) ≤ x3)))) else (laws_FnMost.j1 k x0 x3 x4 false))
def laws_FnMost.j1 : Nat → List Int → Int → Int → Bool → Option (Bool)
  | 0, _, _, _, _ => none
  | k + 1, x0, x3, x4, x83 => if x83 = true then (some false) else ((laws_wByte.f x0 7).bind fun t137 => ((impl_LeastBrake.f k x3 (wrap64 (t137 * 9)) x4).bind fun t138 => (if t138 = 0 then ((spec_SlowLen.f k (wrap64 (t137 * 9)) x4 1000).bind fun t139 => (some (decide (t139 > x3)))) else (if t138 ≥ 10 then (if t138 ≤ 1000 then ((spec_SlowLen.f k (wrap64 (t137 * 9)) x4 t138).bind fun t140 => (if t140 ≤ x3 then (if t138 = 10 then (some true) else ((spec_SlowLen.f k (wrap64 (t137 * 9)) x4 (wrap64 (t138 - 1))).bind fun t141 => (some (decide (t141 > x3))))) else (some false))) else (some false)) else (some false)))))
end
def laws_FnMost.f (k : Nat) (l0 : List Int) : Option (Bool) := if (l0.length : Int) > 1048576 then (some true) else ((laws_wByte.f l0 0).bind fun t126 => ((laws_wByte.f l0 1).bind fun t127 => ((laws_wByte.f l0 2).bind fun t128 => ((laws_wByte.f l0 3).bind fun t129 => ((laws_wByte.f l0 4).bind fun t130 => ((laws_wByte.f l0 5).bind fun t131 => ((laws_wByte.f l0 6).bind fun t132 => ((impl_MostSpeed.f k (wrap64 ((wrap64 (t126 + (wrap64 (256 * t127)))) * (wrap64 (1 + (Int.tmod t128 50))))) (wrap64 (t129 * (Int.tmod t130 3))) (wrap64 (10 + t131)) (Int.tmod t132 5)).bind fun t133 => (if t133 < 0 then (laws_FnMost.j0 k l0 (wrap64 ((wrap64 (t126 + (wrap64 (256 * t127)))) * (wrap64 (1 + (Int.tmod t128 50))))) (wrap64 (t129 * (Int.tmod t130 3))) (wrap64 (10 + t131)) (Int.tmod t132 5) t133 true) else (if t133 > 10000 then (laws_FnMost.j0 k l0 (wrap64 ((wrap64 (t126 + (wrap64 (256 * t127)))) * (wrap64 (1 + (Int.tmod t128 50))))) (wrap64 (t129 * (Int.tmod t130 3))) (wrap64 (10 + t131)) (Int.tmod t132 5) t133 true) else ((spec_SlowLen.f k t133 (wrap64 (t129 * (Int.tmod t130 3))) (wrap64 (10 + t131))).bind fun t134 => (if (wrap64 ((wrap64 ((Int.tmod t132 5) * t133)) + t134)) > (wrap64 ((wrap64 (t126 + (wrap64 (256 * t127)))) * (wrap64 (1 + (Int.tmod t128 50))))) then (laws_FnMost.j0 k l0 (wrap64 ((wrap64 (t126 + (wrap64 (256 * t127)))) * (wrap64 (1 + (Int.tmod t128 50))))) (wrap64 (t129 * (Int.tmod t130 3))) (wrap64 (10 + t131)) (Int.tmod t132 5) t133 true) else ((spec_MostSpeed.f k (wrap64 ((wrap64 (t126 + (wrap64 (256 * t127)))) * (wrap64 (1 + (Int.tmod t128 50))))) (wrap64 (t129 * (Int.tmod t130 3))) (wrap64 (10 + t131)) (Int.tmod t132 5)).bind fun t135 => (laws_FnMost.j0 k l0 (wrap64 ((wrap64 (t126 + (wrap64 (256 * t127)))) * (wrap64 (1 + (Int.tmod t128 50))))) (wrap64 (t129 * (Int.tmod t130 3))) (wrap64 (10 + t131)) (Int.tmod t132 5) t133 (t133 != t135)))))))))))))))
theorem laws_FnMost.mono_l : ∀ k, (∀ y0 y1 y2 y3 y4 y5 y6, LeO (laws_FnMost.j0 k y0 y1 y2 y3 y4 y5 y6) (laws_FnMost.j0 (k + 1) y0 y1 y2 y3 y4 y5 y6)) ∧ (∀ y0 y1 y2 y3, LeO (laws_FnMost.j1 k y0 y1 y2 y3) (laws_FnMost.j1 (k + 1) y0 y1 y2 y3))
  | 0 => ⟨fun _ _ _ _ _ _ _ r h => by simp [laws_FnMost.j0] at h, fun _ _ _ _ r h => by simp [laws_FnMost.j1] at h⟩
  | k + 1 => by
    obtain ⟨ih0, ih1⟩ := laws_FnMost.mono_l k
    refine ⟨?_, ?_⟩
    · intro y0 y1 y2 y3 y4 y5 y6
      unfold laws_FnMost.j0
      repeat' first
      | (with_reducible exact ih0 _ _ _ _ _ _ _)
      | (with_reducible exact ih1 _ _ _ _)
      | (with_reducible exact impl_LeastBrake.mono _ _ _ _)
      | (with_reducible exact impl_MostSpeed.mono _ _ _ _ _)
      | (with_reducible exact spec_MostSpeed.mono _ _ _ _ _)
      | (with_reducible exact spec_SlowLen.mono _ _ _ _)
      | (with_reducible exact LeO.refl _)
      | (with_reducible exact LeO.none _)
      | (with_reducible refine LeO.ite ?_ ?_)
      | (with_reducible refine LeO.bind ?_ (fun _ => ?_))
      | exact ih0 _ _ _ _ _ _ _
      | exact ih1 _ _ _ _
      | exact impl_LeastBrake.mono _ _ _ _
      | exact impl_MostSpeed.mono _ _ _ _ _
      | exact spec_MostSpeed.mono _ _ _ _ _
      | exact spec_SlowLen.mono _ _ _ _
      | exact LeO.none _
      | refine LeO.ite ?_ ?_
      | refine LeO.bind ?_ (fun _ => ?_)
    · intro y0 y1 y2 y3
      unfold laws_FnMost.j1
      repeat' first
      | (with_reducible exact ih0 _ _ _ _ _ _ _)
      | (with_reducible exact ih1 _ _ _ _)
      | (with_reducible exact impl_LeastBrake.mono _ _ _ _)
      | (with_reducible exact impl_MostSpeed.mono _ _ _ _ _)
      | (with_reducible exact spec_MostSpeed.mono _ _ _ _ _)
      | (with_reducible exact spec_SlowLen.mono _ _ _ _)
      | (with_reducible exact LeO.refl _)
      | (with_reducible exact LeO.none _)
      | (with_reducible refine LeO.ite ?_ ?_)
      | (with_reducible refine LeO.bind ?_ (fun _ => ?_))
      | exact ih0 _ _ _ _ _ _ _
      | exact ih1 _ _ _ _
      | exact impl_LeastBrake.mono _ _ _ _
      | exact impl_MostSpeed.mono _ _ _ _ _
      | exact spec_MostSpeed.mono _ _ _ _ _
      | exact spec_SlowLen.mono _ _ _ _
      | exact LeO.none _
      | refine LeO.ite ?_ ?_
      | refine LeO.bind ?_ (fun _ => ?_)
theorem laws_FnMost.mono : ∀ a0 k, LeO (laws_FnMost.f k a0) (laws_FnMost.f (k + 1) a0) := by
  intro a0 k
  obtain ⟨ih0, ih1⟩ := laws_FnMost.mono_l k
  unfold laws_FnMost.f
  repeat' first
      | (with_reducible exact ih0 _ _ _ _ _ _ _)
      | (with_reducible exact ih1 _ _ _ _)
      | (with_reducible exact impl_LeastBrake.mono _ _ _ _)
      | (with_reducible exact impl_MostSpeed.mono _ _ _ _ _)
      | (with_reducible exact spec_MostSpeed.mono _ _ _ _ _)
      | (with_reducible exact spec_SlowLen.mono _ _ _ _)
      | (with_reducible exact LeO.refl _)
      | (with_reducible exact LeO.none _)
      | (with_reducible refine LeO.ite ?_ ?_)
      | (with_reducible refine LeO.bind ?_ (fun _ => ?_))
      | exact ih0 _ _ _ _ _ _ _
      | exact ih1 _ _ _ _
      | exact impl_LeastBrake.mono _ _ _ _
      | exact impl_MostSpeed.mono _ _ _ _ _
      | exact spec_MostSpeed.mono _ _ _ _ _
      | exact spec_SlowLen.mono _ _ _ _
      | exact LeO.none _
      | refine LeO.ite ?_ ?_
      | refine LeO.bind ?_ (fun _ => ?_)
set_option maxHeartbeats 8000000 in
set_option maxRecDepth 100000 in
theorem laws_FnMost.calls (k : Nat) (A0 : Option Addr) (c0 : Nat) (l0 : List Int) (r : Bool) (w : World) (hr0 : Kd.C (Kd.int .u8) w A0 l0.length l0) (hc0 : l0.length ≤ c0) (h : laws_FnMost.f k l0 = some r) :
    Calls Try.prog 9 #[.slice A0 l0.length c0] w fun e w' => e = .returned (.bool r) ∧ Drawn0 w w' := by
  have HR0 := Aside0.mk hr0
  have HC0 := Aside0.mk hc0
  clear hr0 hc0
  have H : (if (l0.length : Int) > 1048576 then (some true) else ((laws_wByte.f l0 0).bind fun t126 => ((laws_wByte.f l0 1).bind fun t127 => ((laws_wByte.f l0 2).bind fun t128 => ((laws_wByte.f l0 3).bind fun t129 => ((laws_wByte.f l0 4).bind fun t130 => ((laws_wByte.f l0 5).bind fun t131 => ((laws_wByte.f l0 6).bind fun t132 => ((impl_MostSpeed.f k (wrap64 ((wrap64 (t126 + (wrap64 (256 * t127)))) * (wrap64 (1 + (Int.tmod t128 50))))) (wrap64 (t129 * (Int.tmod t130 3))) (wrap64 (10 + t131)) (Int.tmod t132 5)).bind fun t133 => (if t133 < 0 then (laws_FnMost.j0 k l0 (wrap64 ((wrap64 (t126 + (wrap64 (256 * t127)))) * (wrap64 (1 + (Int.tmod t128 50))))) (wrap64 (t129 * (Int.tmod t130 3))) (wrap64 (10 + t131)) (Int.tmod t132 5) t133 true) else (if t133 > 10000 then (laws_FnMost.j0 k l0 (wrap64 ((wrap64 (t126 + (wrap64 (256 * t127)))) * (wrap64 (1 + (Int.tmod t128 50))))) (wrap64 (t129 * (Int.tmod t130 3))) (wrap64 (10 + t131)) (Int.tmod t132 5) t133 true) else ((spec_SlowLen.f k t133 (wrap64 (t129 * (Int.tmod t130 3))) (wrap64 (10 + t131))).bind fun t134 => (if (wrap64 ((wrap64 ((Int.tmod t132 5) * t133)) + t134)) > (wrap64 ((wrap64 (t126 + (wrap64 (256 * t127)))) * (wrap64 (1 + (Int.tmod t128 50))))) then (laws_FnMost.j0 k l0 (wrap64 ((wrap64 (t126 + (wrap64 (256 * t127)))) * (wrap64 (1 + (Int.tmod t128 50))))) (wrap64 (t129 * (Int.tmod t130 3))) (wrap64 (10 + t131)) (Int.tmod t132 5) t133 true) else ((spec_MostSpeed.f k (wrap64 ((wrap64 (t126 + (wrap64 (256 * t127)))) * (wrap64 (1 + (Int.tmod t128 50))))) (wrap64 (t129 * (Int.tmod t130 3))) (wrap64 (10 + t131)) (Int.tmod t132 5)).bind fun t135 => (laws_FnMost.j0 k l0 (wrap64 ((wrap64 (t126 + (wrap64 (256 * t127)))) * (wrap64 (1 + (Int.tmod t128 50))))) (wrap64 (t129 * (Int.tmod t130 3))) (wrap64 (10 + t131)) (Int.tmod t132 5) t133 (t133 != t135)))))))))))))))) = some r := h
  clear h
  by_cases c2 : (l0.length : Int) > 1048576
  · rw [if_pos c2] at H
    have c2b0 : decide (1048576 < (l0.length : Int)) = true := decide_eq_true c2
    have c2b1 : decide (1048576 < l0.length) = true := decide_eq_true (by omega)
    clear c2
    obtain rfl := Option.some.inj H
    go_enter Try.func9, Try.ntmps9
    go_wp2
    go_ret
    exact ⟨by first | rfl | (simp; done) | (simp [*]; done), by repeat (first | exact Drawn0.refl _ | apply Drawn0.step)⟩
  · rw [if_neg c2] at H
    have c2b0 : decide (1048576 < (l0.length : Int)) = false := decide_eq_false c2
    have c2b1 : decide (1048576 < l0.length) = false := decide_eq_false (by omega)
    clear c2
    replace H := Option.bind_eq_some_iff.mp H
    obtain ⟨t126, A30, H⟩ := H
    replace H : ((laws_wByte.f l0 1).bind fun t127 => ((laws_wByte.f l0 2).bind fun t128 => ((laws_wByte.f l0 3).bind fun t129 => ((laws_wByte.f l0 4).bind fun t130 => ((laws_wByte.f l0 5).bind fun t131 => ((laws_wByte.f l0 6).bind fun t132 => ((impl_MostSpeed.f k (wrap64 ((wrap64 (t126 + (wrap64 (256 * t127)))) * (wrap64 (1 + (Int.tmod t128 50))))) (wrap64 (t129 * (Int.tmod t130 3))) (wrap64 (10 + t131)) (Int.tmod t132 5)).bind fun t133 => (if t133 < 0 then (laws_FnMost.j0 k l0 (wrap64 ((wrap64 (t126 + (wrap64 (256 * t127)))) * (wrap64 (1 + (Int.tmod t128 50))))) (wrap64 (t129 * (Int.tmod t130 3))) (wrap64 (10 + t131)) (Int.tmod t132 5) t133 true) else (if t133 > 10000 then (laws_FnMost.j0 k l0 (wrap64 ((wrap64 (t126 + (wrap64 (256 * t127)))) * (wrap64 (1 + (Int.tmod t128 50))))) (wrap64 (t129 * (Int.tmod t130 3))) (wrap64 (10 + t131)) (Int.tmod t132 5) t133 true) else ((spec_SlowLen.f k t133 (wrap64 (t129 * (Int.tmod t130 3))) (wrap64 (10 + t131))).bind fun t134 => (if (wrap64 ((wrap64 ((Int.tmod t132 5) * t133)) + t134)) > (wrap64 ((wrap64 (t126 + (wrap64 (256 * t127)))) * (wrap64 (1 + (Int.tmod t128 50))))) then (laws_FnMost.j0 k l0 (wrap64 ((wrap64 (t126 + (wrap64 (256 * t127)))) * (wrap64 (1 + (Int.tmod t128 50))))) (wrap64 (t129 * (Int.tmod t130 3))) (wrap64 (10 + t131)) (Int.tmod t132 5) t133 true) else ((spec_MostSpeed.f k (wrap64 ((wrap64 (t126 + (wrap64 (256 * t127)))) * (wrap64 (1 + (Int.tmod t128 50))))) (wrap64 (t129 * (Int.tmod t130 3))) (wrap64 (10 + t131)) (Int.tmod t132 5)).bind fun t135 => (laws_FnMost.j0 k l0 (wrap64 ((wrap64 (t126 + (wrap64 (256 * t127)))) * (wrap64 (1 + (Int.tmod t128 50))))) (wrap64 (t129 * (Int.tmod t130 3))) (wrap64 (10 + t131)) (Int.tmod t132 5) t133 (t133 != t135)))))))))))))) = some r := H
    have A3 := Aside0.mk A30
    clear A30
    replace H := Option.bind_eq_some_iff.mp H
    obtain ⟨t127, A40, H⟩ := H
    replace H : ((laws_wByte.f l0 2).bind fun t128 => ((laws_wByte.f l0 3).bind fun t129 => ((laws_wByte.f l0 4).bind fun t130 => ((laws_wByte.f l0 5).bind fun t131 => ((laws_wByte.f l0 6).bind fun t132 => ((impl_MostSpeed.f k (wrap64 ((wrap64 (t126 + (wrap64 (256 * t127)))) * (wrap64 (1 + (Int.tmod t128 50))))) (wrap64 (t129 * (Int.tmod t130 3))) (wrap64 (10 + t131)) (Int.tmod t132 5)).bind fun t133 => (if t133 < 0 then (laws_FnMost.j0 k l0 (wrap64 ((wrap64 (t126 + (wrap64 (256 * t127)))) * (wrap64 (1 + (Int.tmod t128 50))))) (wrap64 (t129 * (Int.tmod t130 3))) (wrap64 (10 + t131)) (Int.tmod t132 5) t133 true) else (if t133 > 10000 then (laws_FnMost.j0 k l0 (wrap64 ((wrap64 (t126 + (wrap64 (256 * t127)))) * (wrap64 (1 + (Int.tmod t128 50))))) (wrap64 (t129 * (Int.tmod t130 3))) (wrap64 (10 + t131)) (Int.tmod t132 5) t133 true) else ((spec_SlowLen.f k t133 (wrap64 (t129 * (Int.tmod t130 3))) (wrap64 (10 + t131))).bind fun t134 => (if (wrap64 ((wrap64 ((Int.tmod t132 5) * t133)) + t134)) > (wrap64 ((wrap64 (t126 + (wrap64 (256 * t127)))) * (wrap64 (1 + (Int.tmod t128 50))))) then (laws_FnMost.j0 k l0 (wrap64 ((wrap64 (t126 + (wrap64 (256 * t127)))) * (wrap64 (1 + (Int.tmod t128 50))))) (wrap64 (t129 * (Int.tmod t130 3))) (wrap64 (10 + t131)) (Int.tmod t132 5) t133 true) else ((spec_MostSpeed.f k (wrap64 ((wrap64 (t126 + (wrap64 (256 * t127)))) * (wrap64 (1 + (Int.tmod t128 50))))) (wrap64 (t129 * (Int.tmod t130 3))) (wrap64 (10 + t131)) (Int.tmod t132 5)).bind fun t135 => (laws_FnMost.j0 k l0 (wrap64 ((wrap64 (t126 + (wrap64 (256 * t127)))) * (wrap64 (1 + (Int.tmod t128 50))))) (wrap64 (t129 * (Int.tmod t130 3))) (wrap64 (10 + t131)) (Int.tmod t132 5) t133 (t133 != t135))))))))))))) = some r := H
    have A4 := Aside0.mk A40
    clear A40
    replace H := Option.bind_eq_some_iff.mp H
    obtain ⟨t128, A50, H⟩ := H
    replace H : ((laws_wByte.f l0 3).bind fun t129 => ((laws_wByte.f l0 4).bind fun t130 => ((laws_wByte.f l0 5).bind fun t131 => ((laws_wByte.f l0 6).bind fun t132 => ((impl_MostSpeed.f k (wrap64 ((wrap64 (t126 + (wrap64 (256 * t127)))) * (wrap64 (1 + (Int.tmod t128 50))))) (wrap64 (t129 * (Int.tmod t130 3))) (wrap64 (10 + t131)) (Int.tmod t132 5)).bind fun t133 => (if t133 < 0 then (laws_FnMost.j0 k l0 (wrap64 ((wrap64 (t126 + (wrap64 (256 * t127)))) * (wrap64 (1 + (Int.tmod t128 50))))) (wrap64 (t129 * (Int.tmod t130 3))) (wrap64 (10 + t131)) (Int.tmod t132 5) t133 true) else (if t133 > 10000 then (laws_FnMost.j0 k l0 (wrap64 ((wrap64 (t126 + (wrap64 (256 * t127)))) * (wrap64 (1 + (Int.tmod t128 50))))) (wrap64 (t129 * (Int.tmod t130 3))) (wrap64 (10 + t131)) (Int.tmod t132 5) t133 true) else ((spec_SlowLen.f k t133 (wrap64 (t129 * (Int.tmod t130 3))) (wrap64 (10 + t131))).bind fun t134 => (if (wrap64 ((wrap64 ((Int.tmod t132 5) * t133)) + t134)) > (wrap64 ((wrap64 (t126 + (wrap64 (256 * t127)))) * (wrap64 (1 + (Int.tmod t128 50))))) then (laws_FnMost.j0 k l0 (wrap64 ((wrap64 (t126 + (wrap64 (256 * t127)))) * (wrap64 (1 + (Int.tmod t128 50))))) (wrap64 (t129 * (Int.tmod t130 3))) (wrap64 (10 + t131)) (Int.tmod t132 5) t133 true) else ((spec_MostSpeed.f k (wrap64 ((wrap64 (t126 + (wrap64 (256 * t127)))) * (wrap64 (1 + (Int.tmod t128 50))))) (wrap64 (t129 * (Int.tmod t130 3))) (wrap64 (10 + t131)) (Int.tmod t132 5)).bind fun t135 => (laws_FnMost.j0 k l0 (wrap64 ((wrap64 (t126 + (wrap64 (256 * t127)))) * (wrap64 (1 + (Int.tmod t128 50))))) (wrap64 (t129 * (Int.tmod t130 3))) (wrap64 (10 + t131)) (Int.tmod t132 5) t133 (t133 != t135)))))))))))) = some r := H
    have A5 := Aside0.mk A50
    clear A50
    replace H := Option.bind_eq_some_iff.mp H
    obtain ⟨t129, A60, H⟩ := H
    replace H : ((laws_wByte.f l0 4).bind fun t130 => ((laws_wByte.f l0 5).bind fun t131 => ((laws_wByte.f l0 6).bind fun t132 => ((impl_MostSpeed.f k (wrap64 ((wrap64 (t126 + (wrap64 (256 * t127)))) * (wrap64 (1 + (Int.tmod t128 50))))) (wrap64 (t129 * (Int.tmod t130 3))) (wrap64 (10 + t131)) (Int.tmod t132 5)).bind fun t133 => (if t133 < 0 then (laws_FnMost.j0 k l0 (wrap64 ((wrap64 (t126 + (wrap64 (256 * t127)))) * (wrap64 (1 + (Int.tmod t128 50))))) (wrap64 (t129 * (Int.tmod t130 3))) (wrap64 (10 + t131)) (Int.tmod t132 5) t133 true) else (if t133 > 10000 then (laws_FnMost.j0 k l0 (wrap64 ((wrap64 (t126 + (wrap64 (256 * t127)))) * (wrap64 (1 + (Int.tmod t128 50))))) (wrap64 (t129 * (Int.tmod t130 3))) (wrap64 (10 + t131)) (Int.tmod t132 5) t133 true) else ((spec_SlowLen.f k t133 (wrap64 (t129 * (Int.tmod t130 3))) (wrap64 (10 + t131))).bind fun t134 => (if (wrap64 ((wrap64 ((Int.tmod t132 5) * t133)) + t134)) > (wrap64 ((wrap64 (t126 + (wrap64 (256 * t127)))) * (wrap64 (1 + (Int.tmod t128 50))))) then (laws_FnMost.j0 k l0 (wrap64 ((wrap64 (t126 + (wrap64 (256 * t127)))) * (wrap64 (1 + (Int.tmod t128 50))))) (wrap64 (t129 * (Int.tmod t130 3))) (wrap64 (10 + t131)) (Int.tmod t132 5) t133 true) else ((spec_MostSpeed.f k (wrap64 ((wrap64 (t126 + (wrap64 (256 * t127)))) * (wrap64 (1 + (Int.tmod t128 50))))) (wrap64 (t129 * (Int.tmod t130 3))) (wrap64 (10 + t131)) (Int.tmod t132 5)).bind fun t135 => (laws_FnMost.j0 k l0 (wrap64 ((wrap64 (t126 + (wrap64 (256 * t127)))) * (wrap64 (1 + (Int.tmod t128 50))))) (wrap64 (t129 * (Int.tmod t130 3))) (wrap64 (10 + t131)) (Int.tmod t132 5) t133 (t133 != t135))))))))))) = some r := H
    have A6 := Aside0.mk A60
    clear A60
    replace H := Option.bind_eq_some_iff.mp H
    obtain ⟨t130, A70, H⟩ := H
    replace H : ((laws_wByte.f l0 5).bind fun t131 => ((laws_wByte.f l0 6).bind fun t132 => ((impl_MostSpeed.f k (wrap64 ((wrap64 (t126 + (wrap64 (256 * t127)))) * (wrap64 (1 + (Int.tmod t128 50))))) (wrap64 (t129 * (Int.tmod t130 3))) (wrap64 (10 + t131)) (Int.tmod t132 5)).bind fun t133 => (if t133 < 0 then (laws_FnMost.j0 k l0 (wrap64 ((wrap64 (t126 + (wrap64 (256 * t127)))) * (wrap64 (1 + (Int.tmod t128 50))))) (wrap64 (t129 * (Int.tmod t130 3))) (wrap64 (10 + t131)) (Int.tmod t132 5) t133 true) else (if t133 > 10000 then (laws_FnMost.j0 k l0 (wrap64 ((wrap64 (t126 + (wrap64 (256 * t127)))) * (wrap64 (1 + (Int.tmod t128 50))))) (wrap64 (t129 * (Int.tmod t130 3))) (wrap64 (10 + t131)) (Int.tmod t132 5) t133 true) else ((spec_SlowLen.f k t133 (wrap64 (t129 * (Int.tmod t130 3))) (wrap64 (10 + t131))).bind fun t134 => (if (wrap64 ((wrap64 ((Int.tmod t132 5) * t133)) + t134)) > (wrap64 ((wrap64 (t126 + (wrap64 (256 * t127)))) * (wrap64 (1 + (Int.tmod t128 50))))) then (laws_FnMost.j0 k l0 (wrap64 ((wrap64 (t126 + (wrap64 (256 * t127)))) * (wrap64 (1 + (Int.tmod t128 50))))) (wrap64 (t129 * (Int.tmod t130 3))) (wrap64 (10 + t131)) (Int.tmod t132 5) t133 true) else ((spec_MostSpeed.f k (wrap64 ((wrap64 (t126 + (wrap64 (256 * t127)))) * (wrap64 (1 + (Int.tmod t128 50))))) (wrap64 (t129 * (Int.tmod t130 3))) (wrap64 (10 + t131)) (Int.tmod t132 5)).bind fun t135 => (laws_FnMost.j0 k l0 (wrap64 ((wrap64 (t126 + (wrap64 (256 * t127)))) * (wrap64 (1 + (Int.tmod t128 50))))) (wrap64 (t129 * (Int.tmod t130 3))) (wrap64 (10 + t131)) (Int.tmod t132 5) t133 (t133 != t135)))))))))) = some r := H
    have A7 := Aside0.mk A70
    clear A70
    replace H := Option.bind_eq_some_iff.mp H
    obtain ⟨t131, A80, H⟩ := H
    replace H : ((laws_wByte.f l0 6).bind fun t132 => ((impl_MostSpeed.f k (wrap64 ((wrap64 (t126 + (wrap64 (256 * t127)))) * (wrap64 (1 + (Int.tmod t128 50))))) (wrap64 (t129 * (Int.tmod t130 3))) (wrap64 (10 + t131)) (Int.tmod t132 5)).bind fun t133 => (if t133 < 0 then (laws_FnMost.j0 k l0 (wrap64 ((wrap64 (t126 + (wrap64 (256 * t127)))) * (wrap64 (1 + (Int.tmod t128 50))))) (wrap64 (t129 * (Int.tmod t130 3))) (wrap64 (10 + t131)) (Int.tmod t132 5) t133 true) else (if t133 > 10000 then (laws_FnMost.j0 k l0 (wrap64 ((wrap64 (t126 + (wrap64 (256 * t127)))) * (wrap64 (1 + (Int.tmod t128 50))))) (wrap64 (t129 * (Int.tmod t130 3))) (wrap64 (10 + t131)) (Int.tmod t132 5) t133 true) else ((spec_SlowLen.f k t133 (wrap64 (t129 * (Int.tmod t130 3))) (wrap64 (10 + t131))).bind fun t134 => (if (wrap64 ((wrap64 ((Int.tmod t132 5) * t133)) + t134)) > (wrap64 ((wrap64 (t126 + (wrap64 (256 * t127)))) * (wrap64 (1 + (Int.tmod t128 50))))) then (laws_FnMost.j0 k l0 (wrap64 ((wrap64 (t126 + (wrap64 (256 * t127)))) * (wrap64 (1 + (Int.tmod t128 50))))) (wrap64 (t129 * (Int.tmod t130 3))) (wrap64 (10 + t131)) (Int.tmod t132 5) t133 true) else ((spec_MostSpeed.f k (wrap64 ((wrap64 (t126 + (wrap64 (256 * t127)))) * (wrap64 (1 + (Int.tmod t128 50))))) (wrap64 (t129 * (Int.tmod t130 3))) (wrap64 (10 + t131)) (Int.tmod t132 5)).bind fun t135 => (laws_FnMost.j0 k l0 (wrap64 ((wrap64 (t126 + (wrap64 (256 * t127)))) * (wrap64 (1 + (Int.tmod t128 50))))) (wrap64 (t129 * (Int.tmod t130 3))) (wrap64 (10 + t131)) (Int.tmod t132 5) t133 (t133 != t135))))))))) = some r := H
    have A8 := Aside0.mk A80
    clear A80
    replace H := Option.bind_eq_some_iff.mp H
    obtain ⟨t132, A90, H⟩ := H
    replace H : ((impl_MostSpeed.f k (wrap64 ((wrap64 (t126 + (wrap64 (256 * t127)))) * (wrap64 (1 + (Int.tmod t128 50))))) (wrap64 (t129 * (Int.tmod t130 3))) (wrap64 (10 + t131)) (Int.tmod t132 5)).bind fun t133 => (if t133 < 0 then (laws_FnMost.j0 k l0 (wrap64 ((wrap64 (t126 + (wrap64 (256 * t127)))) * (wrap64 (1 + (Int.tmod t128 50))))) (wrap64 (t129 * (Int.tmod t130 3))) (wrap64 (10 + t131)) (Int.tmod t132 5) t133 true) else (if t133 > 10000 then (laws_FnMost.j0 k l0 (wrap64 ((wrap64 (t126 + (wrap64 (256 * t127)))) * (wrap64 (1 + (Int.tmod t128 50))))) (wrap64 (t129 * (Int.tmod t130 3))) (wrap64 (10 + t131)) (Int.tmod t132 5) t133 true) else ((spec_SlowLen.f k t133 (wrap64 (t129 * (Int.tmod t130 3))) (wrap64 (10 + t131))).bind fun t134 => (if (wrap64 ((wrap64 ((Int.tmod t132 5) * t133)) + t134)) > (wrap64 ((wrap64 (t126 + (wrap64 (256 * t127)))) * (wrap64 (1 + (Int.tmod t128 50))))) then (laws_FnMost.j0 k l0 (wrap64 ((wrap64 (t126 + (wrap64 (256 * t127)))) * (wrap64 (1 + (Int.tmod t128 50))))) (wrap64 (t129 * (Int.tmod t130 3))) (wrap64 (10 + t131)) (Int.tmod t132 5) t133 true) else ((spec_MostSpeed.f k (wrap64 ((wrap64 (t126 + (wrap64 (256 * t127)))) * (wrap64 (1 + (Int.tmod t128 50))))) (wrap64 (t129 * (Int.tmod t130 3))) (wrap64 (10 + t131)) (Int.tmod t132 5)).bind fun t135 => (laws_FnMost.j0 k l0 (wrap64 ((wrap64 (t126 + (wrap64 (256 * t127)))) * (wrap64 (1 + (Int.tmod t128 50))))) (wrap64 (t129 * (Int.tmod t130 3))) (wrap64 (10 + t131)) (Int.tmod t132 5) t133 (t133 != t135)))))))) = some r := H
    have A9 := Aside0.mk A90
    clear A90
    replace H := Option.bind_eq_some_iff.mp H
    obtain ⟨t133, A100, H⟩ := H
    replace H : (if t133 < 0 then (laws_FnMost.j0 k l0 (wrap64 ((wrap64 (t126 + (wrap64 (256 * t127)))) * (wrap64 (1 + (Int.tmod t128 50))))) (wrap64 (t129 * (Int.tmod t130 3))) (wrap64 (10 + t131)) (Int.tmod t132 5) t133 true) else (if t133 > 10000 then (laws_FnMost.j0 k l0 (wrap64 ((wrap64 (t126 + (wrap64 (256 * t127)))) * (wrap64 (1 + (Int.tmod t128 50))))) (wrap64 (t129 * (Int.tmod t130 3))) (wrap64 (10 + t131)) (Int.tmod t132 5) t133 true) else ((spec_SlowLen.f k t133 (wrap64 (t129 * (Int.tmod t130 3))) (wrap64 (10 + t131))).bind fun t134 => (if (wrap64 ((wrap64 ((Int.tmod t132 5) * t133)) + t134)) > (wrap64 ((wrap64 (t126 + (wrap64 (256 * t127)))) * (wrap64 (1 + (Int.tmod t128 50))))) then (laws_FnMost.j0 k l0 (wrap64 ((wrap64 (t126 + (wrap64 (256 * t127)))) * (wrap64 (1 + (Int.tmod t128 50))))) (wrap64 (t129 * (Int.tmod t130 3))) (wrap64 (10 + t131)) (Int.tmod t132 5) t133 true) else ((spec_MostSpeed.f k (wrap64 ((wrap64 (t126 + (wrap64 (256 * t127)))) * (wrap64 (1 + (Int.tmod t128 50))))) (wrap64 (t129 * (Int.tmod t130 3))) (wrap64 (10 + t131)) (Int.tmod t132 5)).bind fun t135 => (laws_FnMost.j0 k l0 (wrap64 ((wrap64 (t126 + (wrap64 (256 * t127)))) * (wrap64 (1 + (Int.tmod t128 50))))) (wrap64 (t129 * (Int.tmod t130 3))) (wrap64 (10 + t131)) (Int.tmod t132 5) t133 (t133 != t135))))))) = some r := H
    have A10 := Aside0.mk A100
    clear A100
    have HC11 := Aside0.mk H
    clear H
    go_enter Try.func9, Try.ntmps9
    go_upto_region 8 with (first | ((with_reducible refine gate_callee (f := 10) rfl ?_); refine goesL_ (some 14) rfl rfl Try.func10 (by kernel_rfl) rfl #[.slice A0 l0.length c0, .int .i64 0] rfl (by (try simp only [List.map_toArray, List.map_cons, List.map_nil]); first | done | rfl | (simp only [List.length_drop, List.length_take]; rfl)) ?_; (with_reducible refine (laws_wByte.calls _ _ l0 0 t126 _ ?side1 ?side2 A3.out).mono ?_); (case side1 => repeat (first | exact HR0.out | (with_reducible refine Kd.C_alloc ?_ _) | (with_reducible refine Kd.C_drewN ?_ _) | (with_reducible refine Kd.C_drew ?_))); (case side2 => exact HC0.out); rintro e w' ⟨rfl, ⟨nd, rfl⟩⟩; refine ⟨_, rfl, ?_⟩) | ((with_reducible refine gate_callee (f := 10) rfl ?_); refine goesL_ (some 16) rfl rfl Try.func10 (by kernel_rfl) rfl #[.slice A0 l0.length c0, .int .i64 1] rfl (by (try simp only [List.map_toArray, List.map_cons, List.map_nil]); first | done | rfl | (simp only [List.length_drop, List.length_take]; rfl)) ?_; (with_reducible refine (laws_wByte.calls _ _ l0 1 t127 _ ?side1 ?side2 A4.out).mono ?_); (case side1 => repeat (first | exact HR0.out | (with_reducible refine Kd.C_alloc ?_ _) | (with_reducible refine Kd.C_drewN ?_ _) | (with_reducible refine Kd.C_drew ?_))); (case side2 => exact HC0.out); rintro e w' ⟨rfl, ⟨nd, rfl⟩⟩; refine ⟨_, rfl, ?_⟩) | ((with_reducible refine gate_callee (f := 10) rfl ?_); refine goesL_ (some 20) rfl rfl Try.func10 (by kernel_rfl) rfl #[.slice A0 l0.length c0, .int .i64 2] rfl (by (try simp only [List.map_toArray, List.map_cons, List.map_nil]); first | done | rfl | (simp only [List.length_drop, List.length_take]; rfl)) ?_; (with_reducible refine (laws_wByte.calls _ _ l0 2 t128 _ ?side1 ?side2 A5.out).mono ?_); (case side1 => repeat (first | exact HR0.out | (with_reducible refine Kd.C_alloc ?_ _) | (with_reducible refine Kd.C_drewN ?_ _) | (with_reducible refine Kd.C_drew ?_))); (case side2 => exact HC0.out); rintro e w' ⟨rfl, ⟨nd, rfl⟩⟩; refine ⟨_, rfl, ?_⟩) | ((with_reducible refine gate_callee (f := 10) rfl ?_); refine goesL_ (some 25) rfl rfl Try.func10 (by kernel_rfl) rfl #[.slice A0 l0.length c0, .int .i64 3] rfl (by (try simp only [List.map_toArray, List.map_cons, List.map_nil]); first | done | rfl | (simp only [List.length_drop, List.length_take]; rfl)) ?_; (with_reducible refine (laws_wByte.calls _ _ l0 3 t129 _ ?side1 ?side2 A6.out).mono ?_); (case side1 => repeat (first | exact HR0.out | (with_reducible refine Kd.C_alloc ?_ _) | (with_reducible refine Kd.C_drewN ?_ _) | (with_reducible refine Kd.C_drew ?_))); (case side2 => exact HC0.out); rintro e w' ⟨rfl, ⟨nd, rfl⟩⟩; refine ⟨_, rfl, ?_⟩) | ((with_reducible refine gate_callee (f := 10) rfl ?_); refine goesL_ (some 27) rfl rfl Try.func10 (by kernel_rfl) rfl #[.slice A0 l0.length c0, .int .i64 4] rfl (by (try simp only [List.map_toArray, List.map_cons, List.map_nil]); first | done | rfl | (simp only [List.length_drop, List.length_take]; rfl)) ?_; (with_reducible refine (laws_wByte.calls _ _ l0 4 t130 _ ?side1 ?side2 A7.out).mono ?_); (case side1 => repeat (first | exact HR0.out | (with_reducible refine Kd.C_alloc ?_ _) | (with_reducible refine Kd.C_drewN ?_ _) | (with_reducible refine Kd.C_drew ?_))); (case side2 => exact HC0.out); rintro e w' ⟨rfl, ⟨nd, rfl⟩⟩; refine ⟨_, rfl, ?_⟩) | ((with_reducible refine gate_callee (f := 10) rfl ?_); refine goesL_ (some 31) rfl rfl Try.func10 (by kernel_rfl) rfl #[.slice A0 l0.length c0, .int .i64 5] rfl (by (try simp only [List.map_toArray, List.map_cons, List.map_nil]); first | done | rfl | (simp only [List.length_drop, List.length_take]; rfl)) ?_; (with_reducible refine (laws_wByte.calls _ _ l0 5 t131 _ ?side1 ?side2 A8.out).mono ?_); (case side1 => repeat (first | exact HR0.out | (with_reducible refine Kd.C_alloc ?_ _) | (with_reducible refine Kd.C_drewN ?_ _) | (with_reducible refine Kd.C_drew ?_))); (case side2 => exact HC0.out); rintro e w' ⟨rfl, ⟨nd, rfl⟩⟩; refine ⟨_, rfl, ?_⟩) | ((with_reducible refine gate_callee (f := 10) rfl ?_); refine goesL_ (some 34) rfl rfl Try.func10 (by kernel_rfl) rfl #[.slice A0 l0.length c0, .int .i64 6] rfl (by (try simp only [List.map_toArray, List.map_cons, List.map_nil]); first | done | rfl | (simp only [List.length_drop, List.length_take]; rfl)) ?_; (with_reducible refine (laws_wByte.calls _ _ l0 6 t132 _ ?side1 ?side2 A9.out).mono ?_); (case side1 => repeat (first | exact HR0.out | (with_reducible refine Kd.C_alloc ?_ _) | (with_reducible refine Kd.C_drewN ?_ _) | (with_reducible refine Kd.C_drew ?_))); (case side2 => exact HC0.out); rintro e w' ⟨rfl, ⟨nd, rfl⟩⟩; refine ⟨_, rfl, ?_⟩) | ((with_reducible refine gate_callee (f := 18) rfl ?_); refine goesL_ (some 40) rfl rfl Try.func18 (by kernel_rfl) rfl #[.int .i64 (wrap64 ((wrap64 (t126 + (wrap64 (256 * t127)))) * (wrap64 (1 + (Int.tmod t128 50))))), .int .i64 (wrap64 (t129 * (Int.tmod t130 3))), .int .i64 (wrap64 (10 + t131)), .int .i64 (Int.tmod t132 5)] rfl (by (try simp only [List.map_toArray, List.map_cons, List.map_nil]); first | done | rfl | (simp only [List.length_drop, List.length_take]; rfl)) ?_; (with_reducible refine (impl_MostSpeed.calls k (wrap64 ((wrap64 (t126 + (wrap64 (256 * t127)))) * (wrap64 (1 + (Int.tmod t128 50))))) (wrap64 (t129 * (Int.tmod t130 3))) (wrap64 (10 + t131)) (Int.tmod t132 5) t133 _ A10.out).mono ?_); rintro e w' ⟨rfl, ⟨nd, rfl⟩⟩; refine ⟨_, rfl, ?_⟩))
    (try simp only [Act.put, List.setIfInBounds_toArray, List.set_cons_zero, List.set_cons_succ])
    go_cut [67] (fun v67 wc => ∃ (kq : Nat) (x67_10 : Bool), v67 = .bool x67_10 ∧ Aside0 (laws_FnMost.j0 kq l0 (wrap64 ((wrap64 (t126 + (wrap64 (256 * t127)))) * (wrap64 (1 + (Int.tmod t128 50))))) (wrap64 (t129 * (Int.tmod t130 3))) (wrap64 (10 + t131)) (Int.tmod t132 5) t133 x67_10 = some r) ∧ Aside0 (kq ≤ k) ∧ Drawn0 w wc)
    case first =>
      have H := HC11.out
      clear HC11
      by_cases c12 : t133 < 0
      · rw [if_pos c12] at H
        have c12b0 : decide (t133 < 0) = true := decide_eq_true c12
        clear c12
        (first | rw [c12b0] | (simp only [i64_w, i32_w]; rw [c12b0]) | skip)
        have H' := Aside0.mk H
        clear H
        go_wp2
        go_meet
        case rel => exact ⟨_, (true), (by first | rfl | (simp; done) | (simp [*]; done)), H', ⟨by first | omega | exact Nat.le_refl _⟩, by repeat (first | exact Drawn0.refl _ | apply Drawn0.step)⟩
      · rw [if_neg c12] at H
        have c12b0 : decide (t133 < 0) = false := decide_eq_false c12
        clear c12
        (first | rw [c12b0] | (simp only [i64_w, i32_w]; rw [c12b0]) | skip)
        by_cases c13 : t133 > 10000
        · rw [if_pos c13] at H
          have c13b0 : decide (10000 < t133) = true := decide_eq_true c13
          clear c13
          have H' := Aside0.mk H
          clear H
          go_wp2
          go_meet
          case rel => exact ⟨_, (true), (by first | rfl | (simp; done) | (simp [*]; done)), H', ⟨by first | omega | exact Nat.le_refl _⟩, by repeat (first | exact Drawn0.refl _ | apply Drawn0.step)⟩
        · rw [if_neg c13] at H
          have c13b0 : decide (10000 < t133) = false := decide_eq_false c13
          clear c13
          replace H := Option.bind_eq_some_iff.mp H
          obtain ⟨t134, A140, H⟩ := H
          replace H : (if (wrap64 ((wrap64 ((Int.tmod t132 5) * t133)) + t134)) > (wrap64 ((wrap64 (t126 + (wrap64 (256 * t127)))) * (wrap64 (1 + (Int.tmod t128 50))))) then (laws_FnMost.j0 k l0 (wrap64 ((wrap64 (t126 + (wrap64 (256 * t127)))) * (wrap64 (1 + (Int.tmod t128 50))))) (wrap64 (t129 * (Int.tmod t130 3))) (wrap64 (10 + t131)) (Int.tmod t132 5) t133 true) else ((spec_MostSpeed.f k (wrap64 ((wrap64 (t126 + (wrap64 (256 * t127)))) * (wrap64 (1 + (Int.tmod t128 50))))) (wrap64 (t129 * (Int.tmod t130 3))) (wrap64 (10 + t131)) (Int.tmod t132 5)).bind fun t135 => (laws_FnMost.j0 k l0 (wrap64 ((wrap64 (t126 + (wrap64 (256 * t127)))) * (wrap64 (1 + (Int.tmod t128 50))))) (wrap64 (t129 * (Int.tmod t130 3))) (wrap64 (10 + t131)) (Int.tmod t132 5) t133 (t133 != t135)))) = some r := H
          have A14 := Aside0.mk A140
          clear A140
          by_cases c15 : (wrap64 ((wrap64 ((Int.tmod t132 5) * t133)) + t134)) > (wrap64 ((wrap64 (t126 + (wrap64 (256 * t127)))) * (wrap64 (1 + (Int.tmod t128 50)))))
          · rw [if_pos c15] at H
            have c15b0 : decide ((wrap64 ((wrap64 (t126 + (wrap64 (256 * t127)))) * (wrap64 (1 + (Int.tmod t128 50))))) < (wrap64 ((wrap64 ((Int.tmod t132 5) * t133)) + t134))) = true := decide_eq_true c15
            clear c15
            have H' := Aside0.mk H
            clear H
            go_wp2_with (first | (go_at_call 14; (with_reducible refine (spec_SlowLen.calls k t133 (wrap64 (t129 * (Int.tmod t130 3))) (wrap64 (10 + t131)) t134 _ A14.out).mono ?_); rintro e w' ⟨rfl, ⟨nd, rfl⟩⟩))
            go_meet
            case rel => exact ⟨_, (true), (by first | rfl | (simp; done) | (simp [*]; done)), H', ⟨by first | omega | exact Nat.le_refl _⟩, by repeat (first | exact Drawn0.refl _ | apply Drawn0.step)⟩
          · rw [if_neg c15] at H
            have c15b0 : decide ((wrap64 ((wrap64 (t126 + (wrap64 (256 * t127)))) * (wrap64 (1 + (Int.tmod t128 50))))) < (wrap64 ((wrap64 ((Int.tmod t132 5) * t133)) + t134))) = false := decide_eq_false c15
            clear c15
            replace H := Option.bind_eq_some_iff.mp H
            obtain ⟨t135, A160, H⟩ := H
            replace H : (laws_FnMost.j0 k l0 (wrap64 ((wrap64 (t126 + (wrap64 (256 * t127)))) * (wrap64 (1 + (Int.tmod t128 50))))) (wrap64 (t129 * (Int.tmod t130 3))) (wrap64 (10 + t131)) (Int.tmod t132 5) t133 (t133 != t135)) = some r := H
            have A16 := Aside0.mk A160
            clear A160
            have H' := Aside0.mk H
            clear H
            go_wp2_with (first | (go_at_call 14; (with_reducible refine (spec_SlowLen.calls k t133 (wrap64 (t129 * (Int.tmod t130 3))) (wrap64 (10 + t131)) t134 _ A14.out).mono ?_); rintro e w' ⟨rfl, ⟨nd, rfl⟩⟩) | (go_at_call 17; (with_reducible refine (spec_MostSpeed.calls k (wrap64 ((wrap64 (t126 + (wrap64 (256 * t127)))) * (wrap64 (1 + (Int.tmod t128 50))))) (wrap64 (t129 * (Int.tmod t130 3))) (wrap64 (10 + t131)) (Int.tmod t132 5) t135 _ A16.out).mono ?_); rintro e w' ⟨rfl, ⟨nd, rfl⟩⟩))
            go_meet
            case rel => exact ⟨_, ((t133 != t135)), (by first | rfl | (simp; done) | (simp [*]; done)), H', ⟨by first | omega | exact Nat.le_refl _⟩, by repeat (first | exact Drawn0.refl _ | apply Drawn0.step)⟩
    case rest =>
      clear HC11
      try clear c1
      try clear c2
      try clear c2b0
      try clear c2b1
      try clear p2
      try clear p6
      try clear c9
      try clear c10
      try clear c12
      try clear c12b0
      try clear c13
      try clear c13b0
      try clear c15
      try clear c15b0
      obtain ⟨kq, x67_10, rfl, HA, HJ10, ⟨mc10, rfl⟩⟩ := hcut
      cases kq with
      | zero => exact absurd HA.out (by simp [laws_FnMost.j0])
      | succ kj10 =>
        have H := HA.out
        clear HA
        simp only [laws_FnMost.j0] at H
        by_cases c17 : x67_10 = true
        · subst c17
          have H1 : (some false) = some r := by rw [if_pos rfl] at H; exact H
          clear H
          have H := H1
          clear H1
          obtain rfl := Option.some.inj H
          go_wp2
          go_ret
          exact ⟨by first | rfl | (simp; done) | (simp [*]; done), by repeat (first | exact Drawn0.refl _ | apply Drawn0.step)⟩
        · replace c17 := Bool.eq_false_iff.mpr c17
          subst c17
          have H1 : (if t133 < 10000 then ((spec_SlowLen.f kj10 (wrap64 (t133 + 1)) (wrap64 (t129 * (Int.tmod t130 3))) (wrap64 (10 + t131))).bind fun t136 => (laws_FnMost.j1 kj10 l0 (wrap64 ((wrap64 (t126 + (wrap64 (256 * t127)))) * (wrap64 (1 + (Int.tmod t128 50))))) (wrap64 (t129 * (Int.tmod t130 3))) (decide ((wrap64 ((wrap64 ((Int.tmod t132 5) * (wrap64 (t133 + 1)))) + t136)) ≤ (wrap64 ((wrap64 (t126 + (wrap64 (256 * t127)))) * (wrap64 (1 + (Int.tmod t128 50))))))))) else (laws_FnMost.j1 kj10 l0 (wrap64 ((wrap64 (t126 + (wrap64 (256 * t127)))) * (wrap64 (1 + (Int.tmod t128 50))))) (wrap64 (t129 * (Int.tmod t130 3))) false)) = some r := by rw [if_neg (show ¬ (false = true) by decide)] at H; exact H
          clear H
          have H := H1
          clear H1
          have HC18 := Aside0.mk H
          clear H
          go_upto_region 10 with (fail)
          go_cut [83] (fun v83 wc => ∃ (kq : Nat) (x83_17 : Bool), v83 = .bool x83_17 ∧ Aside0 (laws_FnMost.j1 kq l0 (wrap64 ((wrap64 (t126 + (wrap64 (256 * t127)))) * (wrap64 (1 + (Int.tmod t128 50))))) (wrap64 (t129 * (Int.tmod t130 3))) x83_17 = some r) ∧ Aside0 (kq ≤ kj10) ∧ Drawn0 w wc)
          case first =>
            have H := HC18.out
            clear HC18
            by_cases c19 : t133 < 10000
            · rw [if_pos c19] at H
              have c19b0 : decide (t133 < 10000) = true := decide_eq_true c19
              clear c19
              (first | rw [c19b0] | (simp only [i64_w, i32_w]; rw [c19b0]) | skip)
              replace H := Option.bind_eq_some_iff.mp H
              obtain ⟨t136, A200, H⟩ := H
              replace H : (laws_FnMost.j1 kj10 l0 (wrap64 ((wrap64 (t126 + (wrap64 (256 * t127)))) * (wrap64 (1 + (Int.tmod t128 50))))) (wrap64 (t129 * (Int.tmod t130 3))) (decide ((wrap64 ((wrap64 ((Int.tmod t132 5) * (wrap64 (t133 + 1)))) + t136)) ≤ (wrap64 ((wrap64 (t126 + (wrap64 (256 * t127)))) * (wrap64 (1 + (Int.tmod t128 50)))))))) = some r := H
              have A20 := Aside0.mk A200
              clear A200
              have H' := Aside0.mk H
              clear H
              go_wp2_with (first | (go_at_call 14; (with_reducible refine (spec_SlowLen.calls kj10 (wrap64 (t133 + 1)) (wrap64 (t129 * (Int.tmod t130 3))) (wrap64 (10 + t131)) t136 _ A20.out).mono ?_); rintro e w' ⟨rfl, ⟨nd, rfl⟩⟩))
              go_meet
              case rel => exact ⟨_, (decide ((wrap64 ((wrap64 ((Int.tmod t132 5) * (wrap64 (t133 + 1)))) + t136)) ≤ (wrap64 ((wrap64 (t126 + (wrap64 (256 * t127)))) * (wrap64 (1 + (Int.tmod t128 50))))))), (by first | rfl | (simp; done) | (simp [*]; done)), H', ⟨by have := HJ10.out; first | omega | exact Nat.le_refl _⟩, by repeat (first | exact Drawn0.refl _ | apply Drawn0.step)⟩
            · rw [if_neg c19] at H
              have c19b0 : decide (t133 < 10000) = false := decide_eq_false c19
              clear c19
              (first | rw [c19b0] | (simp only [i64_w, i32_w]; rw [c19b0]) | skip)
              have H' := Aside0.mk H
              clear H
              go_wp2
              go_meet
              case rel => exact ⟨_, (false), (by first | rfl | (simp; done) | (simp [*]; done)), H', ⟨by have := HJ10.out; first | omega | exact Nat.le_refl _⟩, by repeat (first | exact Drawn0.refl _ | apply Drawn0.step)⟩
          case rest =>
            clear HC18
            try clear c1
            try clear c2
            try clear c2b0
            try clear c2b1
            try clear p2
            try clear p6
            try clear c9
            try clear c10
            try clear c12
            try clear c12b0
            try clear c13
            try clear c13b0
            try clear c15
            try clear c15b0
            try clear c17
            try clear c18
            try clear c19
            try clear c19b0
            try clear p2
            try clear p6
            obtain ⟨kq, x83_17, rfl, HA, HJ17, ⟨mc17, rfl⟩⟩ := hcut
            cases kq with
            | zero => exact absurd HA.out (by simp [laws_FnMost.j1])
            | succ kj17 =>
              have H := HA.out
              clear HA
              simp only [laws_FnMost.j1] at H
              by_cases c21 : x83_17 = true
              · subst c21
                have H1 : (some false) = some r := by rw [if_pos rfl] at H; exact H
                clear H
                have H := H1
                clear H1
                obtain rfl := Option.some.inj H
                go_wp2
                go_ret
                exact ⟨by first | rfl | (simp; done) | (simp [*]; done), by repeat (first | exact Drawn0.refl _ | apply Drawn0.step)⟩
              · replace c21 := Bool.eq_false_iff.mpr c21
                subst c21
                have H1 : ((laws_wByte.f l0 7).bind fun t137 => ((impl_LeastBrake.f kj17 (wrap64 ((wrap64 (t126 + (wrap64 (256 * t127)))) * (wrap64 (1 + (Int.tmod t128 50))))) (wrap64 (t137 * 9)) (wrap64 (t129 * (Int.tmod t130 3)))).bind fun t138 => (if t138 = 0 then ((spec_SlowLen.f kj17 (wrap64 (t137 * 9)) (wrap64 (t129 * (Int.tmod t130 3))) 1000).bind fun t139 => (some (decide (t139 > (wrap64 ((wrap64 (t126 + (wrap64 (256 * t127)))) * (wrap64 (1 + (Int.tmod t128 50))))))))) else (if t138 ≥ 10 then (if t138 ≤ 1000 then ((spec_SlowLen.f kj17 (wrap64 (t137 * 9)) (wrap64 (t129 * (Int.tmod t130 3))) t138).bind fun t140 => (if t140 ≤ (wrap64 ((wrap64 (t126 + (wrap64 (256 * t127)))) * (wrap64 (1 + (Int.tmod t128 50))))) then (if t138 = 10 then (some true) else ((spec_SlowLen.f kj17 (wrap64 (t137 * 9)) (wrap64 (t129 * (Int.tmod t130 3))) (wrap64 (t138 - 1))).bind fun t141 => (some (decide (t141 > (wrap64 ((wrap64 (t126 + (wrap64 (256 * t127)))) * (wrap64 (1 + (Int.tmod t128 50)))))))))) else (some false))) else (some false)) else (some false))))) = some r := by rw [if_neg (show ¬ (false = true) by decide)] at H; exact H
                clear H
                have H := H1
                clear H1
                replace H := Option.bind_eq_some_iff.mp H
                obtain ⟨t137, A220, H⟩ := H
                replace H : ((impl_LeastBrake.f kj17 (wrap64 ((wrap64 (t126 + (wrap64 (256 * t127)))) * (wrap64 (1 + (Int.tmod t128 50))))) (wrap64 (t137 * 9)) (wrap64 (t129 * (Int.tmod t130 3)))).bind fun t138 => (if t138 = 0 then ((spec_SlowLen.f kj17 (wrap64 (t137 * 9)) (wrap64 (t129 * (Int.tmod t130 3))) 1000).bind fun t139 => (some (decide (t139 > (wrap64 ((wrap64 (t126 + (wrap64 (256 * t127)))) * (wrap64 (1 + (Int.tmod t128 50))))))))) else (if t138 ≥ 10 then (if t138 ≤ 1000 then ((spec_SlowLen.f kj17 (wrap64 (t137 * 9)) (wrap64 (t129 * (Int.tmod t130 3))) t138).bind fun t140 => (if t140 ≤ (wrap64 ((wrap64 (t126 + (wrap64 (256 * t127)))) * (wrap64 (1 + (Int.tmod t128 50))))) then (if t138 = 10 then (some true) else ((spec_SlowLen.f kj17 (wrap64 (t137 * 9)) (wrap64 (t129 * (Int.tmod t130 3))) (wrap64 (t138 - 1))).bind fun t141 => (some (decide (t141 > (wrap64 ((wrap64 (t126 + (wrap64 (256 * t127)))) * (wrap64 (1 + (Int.tmod t128 50)))))))))) else (some false))) else (some false)) else (some false)))) = some r := H
                have A22 := Aside0.mk A220
                clear A220
                replace H := Option.bind_eq_some_iff.mp H
                obtain ⟨t138, A230, H⟩ := H
                replace H : (if t138 = 0 then ((spec_SlowLen.f kj17 (wrap64 (t137 * 9)) (wrap64 (t129 * (Int.tmod t130 3))) 1000).bind fun t139 => (some (decide (t139 > (wrap64 ((wrap64 (t126 + (wrap64 (256 * t127)))) * (wrap64 (1 + (Int.tmod t128 50))))))))) else (if t138 ≥ 10 then (if t138 ≤ 1000 then ((spec_SlowLen.f kj17 (wrap64 (t137 * 9)) (wrap64 (t129 * (Int.tmod t130 3))) t138).bind fun t140 => (if t140 ≤ (wrap64 ((wrap64 (t126 + (wrap64 (256 * t127)))) * (wrap64 (1 + (Int.tmod t128 50))))) then (if t138 = 10 then (some true) else ((spec_SlowLen.f kj17 (wrap64 (t137 * 9)) (wrap64 (t129 * (Int.tmod t130 3))) (wrap64 (t138 - 1))).bind fun t141 => (some (decide (t141 > (wrap64 ((wrap64 (t126 + (wrap64 (256 * t127)))) * (wrap64 (1 + (Int.tmod t128 50)))))))))) else (some false))) else (some false)) else (some false))) = some r := H
                have A23 := Aside0.mk A230
                clear A230
                by_cases c24 : t138 = 0
                · rw [if_pos c24] at H
                  have c24b0 : (t138 == 0) = true := beq_iff_eq.mpr c24
                  have c24b1 : (t138 != 0) = false := bne_eq_false_iff_eq.mpr c24
                  clear c24
                  replace H := Option.bind_eq_some_iff.mp H
                  obtain ⟨t139, A250, H⟩ := H
                  replace H : (some (decide (t139 > (wrap64 ((wrap64 (t126 + (wrap64 (256 * t127)))) * (wrap64 (1 + (Int.tmod t128 50)))))))) = some r := H
                  have A25 := Aside0.mk A250
                  clear A250
                  obtain rfl := Option.some.inj H
                  go_wp2_with (first | ((with_reducible refine gate_callee (f := 10) rfl ?_); refine goesL_ (some 85) rfl rfl Try.func10 (by kernel_rfl) rfl #[.slice A0 l0.length c0, .int .i64 7] rfl (by (try simp only [List.map_toArray, List.map_cons, List.map_nil]); first | done | rfl | (simp only [List.length_drop, List.length_take]; rfl)) ?_; (with_reducible refine (laws_wByte.calls _ _ l0 7 t137 _ ?side1 ?side2 A22.out).mono ?_); (case side1 => repeat (first | exact HR0.out | (with_reducible refine Kd.C_alloc ?_ _) | (with_reducible refine Kd.C_drewN ?_ _) | (with_reducible refine Kd.C_drew ?_))); (case side2 => exact HC0.out); rintro e w' ⟨rfl, ⟨nd, rfl⟩⟩; refine ⟨_, rfl, ?_⟩) | ((with_reducible refine gate_callee (f := 16) rfl ?_); refine goesL_ (some 90) rfl rfl Try.func16 (by kernel_rfl) rfl #[.int .i64 (wrap64 ((wrap64 (t126 + (wrap64 (256 * t127)))) * (wrap64 (1 + (Int.tmod t128 50))))), .int .i64 (wrap64 (t137 * 9)), .int .i64 (wrap64 (t129 * (Int.tmod t130 3)))] rfl (by (try simp only [List.map_toArray, List.map_cons, List.map_nil]); first | done | rfl | (simp only [List.length_drop, List.length_take]; rfl)) ?_; (with_reducible refine (impl_LeastBrake.calls kj17 (wrap64 ((wrap64 (t126 + (wrap64 (256 * t127)))) * (wrap64 (1 + (Int.tmod t128 50))))) (wrap64 (t137 * 9)) (wrap64 (t129 * (Int.tmod t130 3))) t138 _ A23.out).mono ?_); rintro e w' ⟨rfl, ⟨nd, rfl⟩⟩; refine ⟨_, rfl, ?_⟩) | ((with_reducible refine gate_callee (f := 14) rfl ?_); refine goesL_ (some 95) rfl rfl Try.func14 (by kernel_rfl) rfl #[.int .i64 (wrap64 (t137 * 9)), .int .i64 (wrap64 (t129 * (Int.tmod t130 3))), .int .i64 1000] rfl (by (try simp only [List.map_toArray, List.map_cons, List.map_nil]); first | done | rfl | (simp only [List.length_drop, List.length_take]; rfl)) ?_; (with_reducible refine (spec_SlowLen.calls kj17 (wrap64 (t137 * 9)) (wrap64 (t129 * (Int.tmod t130 3))) 1000 t139 _ A25.out).mono ?_); rintro e w' ⟨rfl, ⟨nd, rfl⟩⟩; refine ⟨_, rfl, ?_⟩))
                  go_ret
                  exact ⟨by first | rfl | (simp; done) | (simp [*]; done), by repeat (first | exact Drawn0.refl _ | apply Drawn0.step)⟩
                · rw [if_neg c24] at H
                  have c24b0 : (t138 == 0) = false := beq_eq_false_iff_ne.mpr c24
                  have c24b1 : (t138 != 0) = true := bne_iff_ne.mpr c24
                  by_cases c26 : t138 ≥ 10
                  · rw [if_pos c26] at H
                    have c26b0 : decide (10 ≤ t138) = true := decide_eq_true c26
                    clear c26
                    by_cases c27 : t138 ≤ 1000
                    · rw [if_pos c27] at H
                      have c27b0 : decide (t138 ≤ 1000) = true := decide_eq_true c27
                      clear c27
                      replace H := Option.bind_eq_some_iff.mp H
                      obtain ⟨t140, A280, H⟩ := H
                      replace H : (if t140 ≤ (wrap64 ((wrap64 (t126 + (wrap64 (256 * t127)))) * (wrap64 (1 + (Int.tmod t128 50))))) then (if t138 = 10 then (some true) else ((spec_SlowLen.f kj17 (wrap64 (t137 * 9)) (wrap64 (t129 * (Int.tmod t130 3))) (wrap64 (t138 - 1))).bind fun t141 => (some (decide (t141 > (wrap64 ((wrap64 (t126 + (wrap64 (256 * t127)))) * (wrap64 (1 + (Int.tmod t128 50)))))))))) else (some false)) = some r := H
                      have A28 := Aside0.mk A280
                      clear A280
                      by_cases c29 : t140 ≤ (wrap64 ((wrap64 (t126 + (wrap64 (256 * t127)))) * (wrap64 (1 + (Int.tmod t128 50)))))
                      · rw [if_pos c29] at H
                        have c29b0 : decide (t140 ≤ (wrap64 ((wrap64 (t126 + (wrap64 (256 * t127)))) * (wrap64 (1 + (Int.tmod t128 50)))))) = true := decide_eq_true c29
                        clear c29
                        by_cases c30 : t138 = 10
                        · rw [if_pos c30] at H
                          have c30b0 : (t138 == 10) = true := beq_iff_eq.mpr c30
                          have c30b1 : (t138 != 10) = false := bne_eq_false_iff_eq.mpr c30
                          clear c30
                          obtain rfl := Option.some.inj H
                          go_wp2_with (first | ((with_reducible refine gate_callee (f := 10) rfl ?_); refine goesL_ (some 85) rfl rfl Try.func10 (by kernel_rfl) rfl #[.slice A0 l0.length c0, .int .i64 7] rfl (by (try simp only [List.map_toArray, List.map_cons, List.map_nil]); first | done | rfl | (simp only [List.length_drop, List.length_take]; rfl)) ?_; (with_reducible refine (laws_wByte.calls _ _ l0 7 t137 _ ?side1 ?side2 A22.out).mono ?_); (case side1 => repeat (first | exact HR0.out | (with_reducible refine Kd.C_alloc ?_ _) | (with_reducible refine Kd.C_drewN ?_ _) | (with_reducible refine Kd.C_drew ?_))); (case side2 => exact HC0.out); rintro e w' ⟨rfl, ⟨nd, rfl⟩⟩; refine ⟨_, rfl, ?_⟩) | ((with_reducible refine gate_callee (f := 16) rfl ?_); refine goesL_ (some 90) rfl rfl Try.func16 (by kernel_rfl) rfl #[.int .i64 (wrap64 ((wrap64 (t126 + (wrap64 (256 * t127)))) * (wrap64 (1 + (Int.tmod t128 50))))), .int .i64 (wrap64 (t137 * 9)), .int .i64 (wrap64 (t129 * (Int.tmod t130 3)))] rfl (by (try simp only [List.map_toArray, List.map_cons, List.map_nil]); first | done | rfl | (simp only [List.length_drop, List.length_take]; rfl)) ?_; (with_reducible refine (impl_LeastBrake.calls kj17 (wrap64 ((wrap64 (t126 + (wrap64 (256 * t127)))) * (wrap64 (1 + (Int.tmod t128 50))))) (wrap64 (t137 * 9)) (wrap64 (t129 * (Int.tmod t130 3))) t138 _ A23.out).mono ?_); rintro e w' ⟨rfl, ⟨nd, rfl⟩⟩; refine ⟨_, rfl, ?_⟩) | (go_at_call 14; (with_reducible refine (spec_SlowLen.calls kj17 (wrap64 (t137 * 9)) (wrap64 (t129 * (Int.tmod t130 3))) t138 t140 _ A28.out).mono ?_); rintro e w' ⟨rfl, ⟨nd, rfl⟩⟩))
                          go_ret
                          exact ⟨by first | rfl | (simp; done) | (simp [*]; done), by repeat (first | exact Drawn0.refl _ | apply Drawn0.step)⟩
                        · rw [if_neg c30] at H
                          have c30b0 : (t138 == 10) = false := beq_eq_false_iff_ne.mpr c30
                          have c30b1 : (t138 != 10) = true := bne_iff_ne.mpr c30
                          replace H := Option.bind_eq_some_iff.mp H
                          obtain ⟨t141, A310, H⟩ := H
                          replace H : (some (decide (t141 > (wrap64 ((wrap64 (t126 + (wrap64 (256 * t127)))) * (wrap64 (1 + (Int.tmod t128 50)))))))) = some r := H
                          have A31 := Aside0.mk A310
                          clear A310
                          obtain rfl := Option.some.inj H
                          go_wp2_with (first | ((with_reducible refine gate_callee (f := 10) rfl ?_); refine goesL_ (some 85) rfl rfl Try.func10 (by kernel_rfl) rfl #[.slice A0 l0.length c0, .int .i64 7] rfl (by (try simp only [List.map_toArray, List.map_cons, List.map_nil]); first | done | rfl | (simp only [List.length_drop, List.length_take]; rfl)) ?_; (with_reducible refine (laws_wByte.calls _ _ l0 7 t137 _ ?side1 ?side2 A22.out).mono ?_); (case side1 => repeat (first | exact HR0.out | (with_reducible refine Kd.C_alloc ?_ _) | (with_reducible refine Kd.C_drewN ?_ _) | (with_reducible refine Kd.C_drew ?_))); (case side2 => exact HC0.out); rintro e w' ⟨rfl, ⟨nd, rfl⟩⟩; refine ⟨_, rfl, ?_⟩) | ((with_reducible refine gate_callee (f := 16) rfl ?_); refine goesL_ (some 90) rfl rfl Try.func16 (by kernel_rfl) rfl #[.int .i64 (wrap64 ((wrap64 (t126 + (wrap64 (256 * t127)))) * (wrap64 (1 + (Int.tmod t128 50))))), .int .i64 (wrap64 (t137 * 9)), .int .i64 (wrap64 (t129 * (Int.tmod t130 3)))] rfl (by (try simp only [List.map_toArray, List.map_cons, List.map_nil]); first | done | rfl | (simp only [List.length_drop, List.length_take]; rfl)) ?_; (with_reducible refine (impl_LeastBrake.calls kj17 (wrap64 ((wrap64 (t126 + (wrap64 (256 * t127)))) * (wrap64 (1 + (Int.tmod t128 50))))) (wrap64 (t137 * 9)) (wrap64 (t129 * (Int.tmod t130 3))) t138 _ A23.out).mono ?_); rintro e w' ⟨rfl, ⟨nd, rfl⟩⟩; refine ⟨_, rfl, ?_⟩) | (go_at_call 14; (with_reducible refine (spec_SlowLen.calls kj17 (wrap64 (t137 * 9)) (wrap64 (t129 * (Int.tmod t130 3))) t138 t140 _ A28.out).mono ?_); rintro e w' ⟨rfl, ⟨nd, rfl⟩⟩) | (go_at_call 14; (with_reducible refine (spec_SlowLen.calls kj17 (wrap64 (t137 * 9)) (wrap64 (t129 * (Int.tmod t130 3))) (wrap64 (t138 - 1)) t141 _ A31.out).mono ?_); rintro e w' ⟨rfl, ⟨nd, rfl⟩⟩))
                          go_ret
                          exact ⟨by first | rfl | (simp; done) | (simp [*]; done), by repeat (first | exact Drawn0.refl _ | apply Drawn0.step)⟩
                      · rw [if_neg c29] at H
                        have c29b0 : decide (t140 ≤ (wrap64 ((wrap64 (t126 + (wrap64 (256 * t127)))) * (wrap64 (1 + (Int.tmod t128 50)))))) = false := decide_eq_false c29
                        clear c29
                        obtain rfl := Option.some.inj H
                        go_wp2_with (first | ((with_reducible refine gate_callee (f := 10) rfl ?_); refine goesL_ (some 85) rfl rfl Try.func10 (by kernel_rfl) rfl #[.slice A0 l0.length c0, .int .i64 7] rfl (by (try simp only [List.map_toArray, List.map_cons, List.map_nil]); first | done | rfl | (simp only [List.length_drop, List.length_take]; rfl)) ?_; (with_reducible refine (laws_wByte.calls _ _ l0 7 t137 _ ?side1 ?side2 A22.out).mono ?_); (case side1 => repeat (first | exact HR0.out | (with_reducible refine Kd.C_alloc ?_ _) | (with_reducible refine Kd.C_drewN ?_ _) | (with_reducible refine Kd.C_drew ?_))); (case side2 => exact HC0.out); rintro e w' ⟨rfl, ⟨nd, rfl⟩⟩; refine ⟨_, rfl, ?_⟩) | ((with_reducible refine gate_callee (f := 16) rfl ?_); refine goesL_ (some 90) rfl rfl Try.func16 (by kernel_rfl) rfl #[.int .i64 (wrap64 ((wrap64 (t126 + (wrap64 (256 * t127)))) * (wrap64 (1 + (Int.tmod t128 50))))), .int .i64 (wrap64 (t137 * 9)), .int .i64 (wrap64 (t129 * (Int.tmod t130 3)))] rfl (by (try simp only [List.map_toArray, List.map_cons, List.map_nil]); first | done | rfl | (simp only [List.length_drop, List.length_take]; rfl)) ?_; (with_reducible refine (impl_LeastBrake.calls kj17 (wrap64 ((wrap64 (t126 + (wrap64 (256 * t127)))) * (wrap64 (1 + (Int.tmod t128 50))))) (wrap64 (t137 * 9)) (wrap64 (t129 * (Int.tmod t130 3))) t138 _ A23.out).mono ?_); rintro e w' ⟨rfl, ⟨nd, rfl⟩⟩; refine ⟨_, rfl, ?_⟩) | (go_at_call 14; (with_reducible refine (spec_SlowLen.calls kj17 (wrap64 (t137 * 9)) (wrap64 (t129 * (Int.tmod t130 3))) t138 t140 _ A28.out).mono ?_); rintro e w' ⟨rfl, ⟨nd, rfl⟩⟩))
                        go_ret
                        exact ⟨by first | rfl | (simp; done) | (simp [*]; done), by repeat (first | exact Drawn0.refl _ | apply Drawn0.step)⟩
                    · rw [if_neg c27] at H
                      have c27b0 : decide (t138 ≤ 1000) = false := decide_eq_false c27
                      clear c27
                      obtain rfl := Option.some.inj H
                      go_wp2_with (first | ((with_reducible refine gate_callee (f := 10) rfl ?_); refine goesL_ (some 85) rfl rfl Try.func10 (by kernel_rfl) rfl #[.slice A0 l0.length c0, .int .i64 7] rfl (by (try simp only [List.map_toArray, List.map_cons, List.map_nil]); first | done | rfl | (simp only [List.length_drop, List.length_take]; rfl)) ?_; (with_reducible refine (laws_wByte.calls _ _ l0 7 t137 _ ?side1 ?side2 A22.out).mono ?_); (case side1 => repeat (first | exact HR0.out | (with_reducible refine Kd.C_alloc ?_ _) | (with_reducible refine Kd.C_drewN ?_ _) | (with_reducible refine Kd.C_drew ?_))); (case side2 => exact HC0.out); rintro e w' ⟨rfl, ⟨nd, rfl⟩⟩; refine ⟨_, rfl, ?_⟩) | ((with_reducible refine gate_callee (f := 16) rfl ?_); refine goesL_ (some 90) rfl rfl Try.func16 (by kernel_rfl) rfl #[.int .i64 (wrap64 ((wrap64 (t126 + (wrap64 (256 * t127)))) * (wrap64 (1 + (Int.tmod t128 50))))), .int .i64 (wrap64 (t137 * 9)), .int .i64 (wrap64 (t129 * (Int.tmod t130 3)))] rfl (by (try simp only [List.map_toArray, List.map_cons, List.map_nil]); first | done | rfl | (simp only [List.length_drop, List.length_take]; rfl)) ?_; (with_reducible refine (impl_LeastBrake.calls kj17 (wrap64 ((wrap64 (t126 + (wrap64 (256 * t127)))) * (wrap64 (1 + (Int.tmod t128 50))))) (wrap64 (t137 * 9)) (wrap64 (t129 * (Int.tmod t130 3))) t138 _ A23.out).mono ?_); rintro e w' ⟨rfl, ⟨nd, rfl⟩⟩; refine ⟨_, rfl, ?_⟩))
                      go_ret
                      exact ⟨by first | rfl | (simp; done) | (simp [*]; done), by repeat (first | exact Drawn0.refl _ | apply Drawn0.step)⟩
                  · rw [if_neg c26] at H
                    have c26b0 : decide (10 ≤ t138) = false := decide_eq_false c26
                    clear c26
                    obtain rfl := Option.some.inj H
                    go_wp2_with (first | ((with_reducible refine gate_callee (f := 10) rfl ?_); refine goesL_ (some 85) rfl rfl Try.func10 (by kernel_rfl) rfl #[.slice A0 l0.length c0, .int .i64 7] rfl (by (try simp only [List.map_toArray, List.map_cons, List.map_nil]); first | done | rfl | (simp only [List.length_drop, List.length_take]; rfl)) ?_; (with_reducible refine (laws_wByte.calls _ _ l0 7 t137 _ ?side1 ?side2 A22.out).mono ?_); (case side1 => repeat (first | exact HR0.out | (with_reducible refine Kd.C_alloc ?_ _) | (with_reducible refine Kd.C_drewN ?_ _) | (with_reducible refine Kd.C_drew ?_))); (case side2 => exact HC0.out); rintro e w' ⟨rfl, ⟨nd, rfl⟩⟩; refine ⟨_, rfl, ?_⟩) | ((with_reducible refine gate_callee (f := 16) rfl ?_); refine goesL_ (some 90) rfl rfl Try.func16 (by kernel_rfl) rfl #[.int .i64 (wrap64 ((wrap64 (t126 + (wrap64 (256 * t127)))) * (wrap64 (1 + (Int.tmod t128 50))))), .int .i64 (wrap64 (t137 * 9)), .int .i64 (wrap64 (t129 * (Int.tmod t130 3)))] rfl (by (try simp only [List.map_toArray, List.map_cons, List.map_nil]); first | done | rfl | (simp only [List.length_drop, List.length_take]; rfl)) ?_; (with_reducible refine (impl_LeastBrake.calls kj17 (wrap64 ((wrap64 (t126 + (wrap64 (256 * t127)))) * (wrap64 (1 + (Int.tmod t128 50))))) (wrap64 (t137 * 9)) (wrap64 (t129 * (Int.tmod t130 3))) t138 _ A23.out).mono ?_); rintro e w' ⟨rfl, ⟨nd, rfl⟩⟩; refine ⟨_, rfl, ?_⟩))
                    go_ret
                    exact ⟨by first | rfl | (simp; done) | (simp [*]; done), by repeat (first | exact Drawn0.refl _ | apply Drawn0.step)⟩

/-- THE ONE PURE STATEMENT of laws_FnMost: yours. -/
def laws_FnMost.Pure : Prop := ∀ (l0 : List Int), l0.length ≤ maxLen → l0.length * 1 ≤ 140737488351232 → (∀ x ∈ l0, (Lit.int .u8 x).wf = true) → ∃ k, laws_FnMost.f k l0 = some true
theorem laws_FnMost.walk (P : laws_FnMost.Pure) (a0 : Option Addr) (len0 cap0 : Nat) (z0 : List Int) (w : World) (w0 : (a0 = none ∧ len0 = 0 ∧ cap0 = 0 ∧ z0 = []) ∨ ∃ x, a0 = some x ∧ len0 ≤ cap0 ∧ cap0 ≤ maxLen ∧ z0.length = cap0 ∧ (∀ i, i < z0.length → w.cell? (x.add i) = some (.int .u8 (z0.getD i 0))) ∧ ∀ n ∈ z0, (Lit.int .u8 n).wf = true) (y0 : len0 * 1 ≤ 140737488351232) :
    Calls Try.prog 9 #[.slice a0 len0 cap0] w fun e w' => e = .returned (.bool true) ∧ Below w.heap.size w w' := by
  obtain ⟨l0, rfl, hr0, hm0, hw0, hc0⟩ := ReadsInt.ofRowC w0
  obtain ⟨k, h⟩ := P l0 hm0 y0 hw0
  refine (laws_FnMost.calls k _ _ l0 true w (Kd.C_of_reads (d := (0 : Int)) (h1 := fun _ => rfl) hr0) hc0 h).mono ?_
  rintro e w' ⟨rfl, hd⟩
  exact ⟨rfl, hd.below⟩

end Go.Proofs.Ytlpcaimkkoahiaa.PFnMost
