-- PRINTED BY print.sh 35421559b90ae4d0a3588c463048766b98c2df88dd9212a6774a882060cdf62d: not written by this session
import Derived.Test.YtlpcaimkkoahiaaPFnSumsx0
namespace Go.Proofs.Ytlpcaimkkoahiaa.PFnSums
open Go.RowKit Go.Proofs.YtlpcaimkkoahiaaW.PrintWords Go.Proofs.YtlpcaimkkoahiaaW.PrintLast Go.Proofs.YtlpcaimkkoahiaaW.PrintMore
attribute [local go_sem] max2_int min2_int max_two min_two max_three min_three max_four min_four   -- for this text's walks alone
set_option linter.unusedVariables false
set_option linter.unusedSimpArgs false

/-! ### laws_wByte: function 10 -/
def laws_wByte.f (l0 : List Int) (a1 : Int) : Option (Int) := if (l0.length : Int) = 0 then (some 0) else (if 0 ≤ (Int.tmod a1 (l0.length : Int)) then (if (Int.tmod a1 (l0.length : Int)) < (l0.length : Int) then (some (wrap64 (rd l0 (Int.tmod a1 (l0.length : Int))))) else (none)) else (none))
set_option maxHeartbeats 8000000 in
set_option maxRecDepth 100000 in
theorem laws_wByte.calls (A0 : Option Addr) (c0 : Nat) (l0 : List Int) (a1 : Int) (r : Int) (w : World) (hr0 : Kd.C (Kd.int .u8) w A0 l0.length l0) (hc0 : l0.length ≤ c0) (h : laws_wByte.f l0 a1 = some r) :
    Calls Try.prog 10 #[.slice A0 l0.length c0, .int .i64 a1] w fun e w' => e = .returned (.int .i64 r) ∧ Drawn0 w w' := by
  have HR0 := Aside0.mk hr0
  have HC0 := Aside0.mk hc0
  clear hr0 hc0
  have H : (if (l0.length : Int) = 0 then (some 0) else (if 0 ≤ (Int.tmod a1 (l0.length : Int)) then (if (Int.tmod a1 (l0.length : Int)) < (l0.length : Int) then (some (wrap64 (rd l0 (Int.tmod a1 (l0.length : Int))))) else (none)) else (none))) = some r := h
  clear h
  by_cases c3 : (l0.length : Int) = 0
  · rw [if_pos c3] at H
    have c3b0 : ((l0.length : Int) == 0) = true := beq_iff_eq.mpr c3
    have c3b1 : ((l0.length : Int) != 0) = false := bne_eq_false_iff_eq.mpr c3
    clear c3
    obtain rfl := Option.some.inj H
    go_enter Try.func10, Try.ntmps10
    go_wp2
    go_ret
    exact ⟨by first | rfl | (simp; done) | (simp [*]; done), by repeat (first | exact Drawn0.refl _ | apply Drawn0.step)⟩
  · rw [if_neg c3] at H
    have c3b0 : ((l0.length : Int) == 0) = false := beq_eq_false_iff_ne.mpr c3
    have c3b1 : ((l0.length : Int) != 0) = true := bne_iff_ne.mpr c3
    have c3b2 : ¬ (l0 = []) := fun h_ => c3 (by rw [h_]; rfl)
    obtain ⟨ji4, hji4⟩ : ∃ j_ : Int, (Int.tmod a1 (l0.length : Int)) = j_ := ⟨_, rfl⟩
    replace H : (if 0 ≤ (ji4) then (if (ji4) < (l0.length : Int) then (some (wrap64 (rd l0 (ji4)))) else (none)) else (none)) = some r := by first | (rw [hji4] at H; exact H) | (simp only [hji4] at H ⊢; exact H)
    by_cases c5 : 0 ≤ (ji4)
    · rw [if_pos c5] at H
      have c5b0 : decide (0 ≤ (ji4)) = true := decide_eq_true c5
      clear c5
      by_cases c6 : (ji4) < (l0.length : Int)
      · rw [if_pos c6] at H
        have c6b0 : decide ((ji4) < (l0.length : Int)) = true := decide_eq_true c6
        clear c6
        obtain rfl := Option.some.inj H
        have p101 : 0 ≤ ((ji4) : Int) := of_decide_eq_true (by first | (with_reducible assumption) | assumption)
        have q101 : (ji4) < (l0.length : Int) := of_decide_eq_true (by first | (with_reducible assumption) | assumption)
        obtain ⟨ad101, e101, hx101_0⟩ := Kd.at_int HR0.out (ji4) p101 q101
        cases e101
        replace p101 := eq_true p101
        replace q101 := eq_true q101
        go_enter Try.func10, Try.ntmps10
        go_wp2
        go_ret
        exact ⟨by first | rfl | (simp; done) | (simp only [← hji4] <;> (first | rfl | simp)) | (simp [*]; done), by repeat (first | exact Drawn0.refl _ | apply Drawn0.step)⟩
      · rw [if_neg c6] at H
        exact absurd H (by simp)
    · rw [if_neg c5] at H
      exact absurd H (by simp)

/-! ### impl_speed: function 19 -/
def impl_speed.f (a0 : Int) : Option (Bool) := if a0 ≥ 0 then (some (decide (a0 ≤ 10000))) else (some false)
set_option maxHeartbeats 8000000 in
set_option maxRecDepth 100000 in
theorem impl_speed.calls (a0 : Int) (r : Bool) (w : World) (h : impl_speed.f a0 = some r) :
    Calls Try.prog 19 #[.int .i64 a0] w fun e w' => e = .returned (.bool r) ∧ Drawn0 w w' := by
  have H : (if a0 ≥ 0 then (some (decide (a0 ≤ 10000))) else (some false)) = some r := h
  clear h
  by_cases c2 : a0 ≥ 0
  · rw [if_pos c2] at H
    have c2b0 : decide (0 ≤ a0) = true := decide_eq_true c2
    clear c2
    obtain rfl := Option.some.inj H
    go_enter Try.func19, Try.ntmps19
    go_wp2
    go_ret
    exact ⟨by first | rfl | (simp; done) | (simp [*]; done), by repeat (first | exact Drawn0.refl _ | apply Drawn0.step)⟩
  · rw [if_neg c2] at H
    have c2b0 : decide (0 ≤ a0) = false := decide_eq_false c2
    clear c2
    obtain rfl := Option.some.inj H
    go_enter Try.func19, Try.ntmps19
    go_wp2
    go_ret
    exact ⟨by first | rfl | (simp; done) | (simp [*]; done), by repeat (first | exact Drawn0.refl _ | apply Drawn0.step)⟩

/-! ### impl_brake: function 20 -/
def impl_brake.f (a0 : Int) : Option (Bool) := if a0 ≥ 10 then (some (decide (a0 ≤ 1000))) else (some false)
set_option maxHeartbeats 8000000 in
set_option maxRecDepth 100000 in
theorem impl_brake.calls (a0 : Int) (r : Bool) (w : World) (h : impl_brake.f a0 = some r) :
    Calls Try.prog 20 #[.int .i64 a0] w fun e w' => e = .returned (.bool r) ∧ Drawn0 w w' := by
  have H : (if a0 ≥ 10 then (some (decide (a0 ≤ 1000))) else (some false)) = some r := h
  clear h
  by_cases c2 : a0 ≥ 10
  · rw [if_pos c2] at H
    have c2b0 : decide (10 ≤ a0) = true := decide_eq_true c2
    clear c2
    obtain rfl := Option.some.inj H
    go_enter Try.func20, Try.ntmps20
    go_wp2
    go_ret
    exact ⟨by first | rfl | (simp; done) | (simp [*]; done), by repeat (first | exact Drawn0.refl _ | apply Drawn0.step)⟩
  · rw [if_neg c2] at H
    have c2b0 : decide (10 ≤ a0) = false := decide_eq_false c2
    clear c2
    obtain rfl := Option.some.inj H
    go_enter Try.func20, Try.ntmps20
    go_wp2
    go_ret
    exact ⟨by first | rfl | (simp; done) | (simp [*]; done), by repeat (first | exact Drawn0.refl _ | apply Drawn0.step)⟩

/-! ### impl_SlowLen: function 11 -/
def impl_SlowLen.j0 : Nat → Int → Int → Int → Bool → Option (Int)
  | 0, _, _, _, _ => none
  | k + 1, x0, x1, x2, x22 => if x22 = true then (some (-1)) else (if x0 ≤ x1 then (some 0) else (if x2 = 0 then (none) else (if (Int.tmod (wrap64 (x0 - x1)) x2) > 0 then (some (wrap64 ((wrap64 ((wrap64 ((wrap64 (Int.tdiv (wrap64 (x0 - x1)) x2)) * x0)) - (wrap64 (Int.tdiv (wrap64 ((wrap64 (x2 * (wrap64 (Int.tdiv (wrap64 (x0 - x1)) x2)))) * (wrap64 ((wrap64 (Int.tdiv (wrap64 (x0 - x1)) x2)) + 1)))) 2)))) + x1))) else (some (wrap64 ((wrap64 ((wrap64 (Int.tdiv (wrap64 (x0 - x1)) x2)) * x0)) - (wrap64 (Int.tdiv (wrap64 ((wrap64 (x2 * (wrap64 (Int.tdiv (wrap64 (x0 - x1)) x2)))) * (wrap64 ((wrap64 (Int.tdiv (wrap64 (x0 - x1)) x2)) + 1)))) 2))))))))
def impl_SlowLen.f (k : Nat) (a0 : Int) (a1 : Int) (a2 : Int) : Option (Int) := (impl_speed.f a0).bind fun t102 => (if t102 = true then ((impl_speed.f a1).bind fun t103 => (if t103 = true then ((impl_brake.f a2).bind fun t104 => (impl_SlowLen.j0 k a0 a1 a2 (!t104))) else (impl_SlowLen.j0 k a0 a1 a2 true))) else (impl_SlowLen.j0 k a0 a1 a2 true))
theorem impl_SlowLen.mono_l : ∀ k, (∀ y0 y1 y2 y3, LeO (impl_SlowLen.j0 k y0 y1 y2 y3) (impl_SlowLen.j0 (k + 1) y0 y1 y2 y3))
  | 0 => fun _ _ _ _ r h => by simp [impl_SlowLen.j0] at h
  | k + 1 => by
    have ih0 := impl_SlowLen.mono_l k
    · intro y0 y1 y2 y3
      unfold impl_SlowLen.j0
      repeat' first
      | (with_reducible exact ih0 _ _ _ _)
      | (with_reducible exact LeO.refl _)
      | (with_reducible exact LeO.none _)
      | (with_reducible refine LeO.ite ?_ ?_)
      | (with_reducible refine LeO.bind ?_ (fun _ => ?_))
      | exact ih0 _ _ _ _
      | exact LeO.none _
      | refine LeO.ite ?_ ?_
      | refine LeO.bind ?_ (fun _ => ?_)
theorem impl_SlowLen.mono : ∀ a0 a1 a2 k, LeO (impl_SlowLen.f k a0 a1 a2) (impl_SlowLen.f (k + 1) a0 a1 a2) := by
  intro a0 a1 a2 k
  have ih0 := impl_SlowLen.mono_l k
  unfold impl_SlowLen.f
  repeat' first
      | (with_reducible exact ih0 _ _ _ _)
      | (with_reducible exact LeO.refl _)
      | (with_reducible exact LeO.none _)
      | (with_reducible refine LeO.ite ?_ ?_)
      | (with_reducible refine LeO.bind ?_ (fun _ => ?_))
      | exact ih0 _ _ _ _
      | exact LeO.none _
      | refine LeO.ite ?_ ?_
      | refine LeO.bind ?_ (fun _ => ?_)
set_option maxHeartbeats 8000000 in
set_option maxRecDepth 100000 in
theorem impl_SlowLen.calls (k : Nat) (a0 : Int) (a1 : Int) (a2 : Int) (r : Int) (w : World) (h : impl_SlowLen.f k a0 a1 a2 = some r) :
    Calls Try.prog 11 #[.int .i64 a0, .int .i64 a1, .int .i64 a2] w fun e w' => e = .returned (.int .i64 r) ∧ Drawn0 w w' := by
  have H : ((impl_speed.f a0).bind fun t102 => (if t102 = true then ((impl_speed.f a1).bind fun t103 => (if t103 = true then ((impl_brake.f a2).bind fun t104 => (impl_SlowLen.j0 k a0 a1 a2 (!t104))) else (impl_SlowLen.j0 k a0 a1 a2 true))) else (impl_SlowLen.j0 k a0 a1 a2 true))) = some r := h
  clear h
  have HC4 := Aside0.mk H
  clear H
  go_enter Try.func11, Try.ntmps11
  go_upto_region 1 with (fail)
  repeat (go_quiet (fail); go_upto_region 1 with (fail))
  go_cut [22] (fun v22 wc => ∃ (kq : Nat) (x22_3 : Bool), v22 = .bool x22_3 ∧ Aside0 (impl_SlowLen.j0 kq a0 a1 a2 x22_3 = some r) ∧ Aside0 (kq ≤ k) ∧ Drawn0 w wc)
  case first =>
    have H := HC4.out
    clear HC4
    replace H := Option.bind_eq_some_iff.mp H
    obtain ⟨t102, A50, H⟩ := H
    replace H : (if t102 = true then ((impl_speed.f a1).bind fun t103 => (if t103 = true then ((impl_brake.f a2).bind fun t104 => (impl_SlowLen.j0 k a0 a1 a2 (!t104))) else (impl_SlowLen.j0 k a0 a1 a2 true))) else (impl_SlowLen.j0 k a0 a1 a2 true)) = some r := H
    have A5 := Aside0.mk A50
    clear A50
    by_cases c6 : t102 = true
    · subst c6
      have H1 : ((impl_speed.f a1).bind fun t103 => (if t103 = true then ((impl_brake.f a2).bind fun t104 => (impl_SlowLen.j0 k a0 a1 a2 (!t104))) else (impl_SlowLen.j0 k a0 a1 a2 true))) = some r := by rw [if_pos rfl] at H; exact H
      clear H
      have H := H1
      clear H1
      replace H := Option.bind_eq_some_iff.mp H
      obtain ⟨t103, A70, H⟩ := H
      replace H : (if t103 = true then ((impl_brake.f a2).bind fun t104 => (impl_SlowLen.j0 k a0 a1 a2 (!t104))) else (impl_SlowLen.j0 k a0 a1 a2 true)) = some r := H
      have A7 := Aside0.mk A70
      clear A70
      by_cases c8 : t103 = true
      · subst c8
        have H1 : ((impl_brake.f a2).bind fun t104 => (impl_SlowLen.j0 k a0 a1 a2 (!t104))) = some r := by rw [if_pos rfl] at H; exact H
        clear H
        have H := H1
        clear H1
        replace H := Option.bind_eq_some_iff.mp H
        obtain ⟨t104, A90, H⟩ := H
        replace H : (impl_SlowLen.j0 k a0 a1 a2 (!t104)) = some r := H
        have A9 := Aside0.mk A90
        clear A90
        have H' := Aside0.mk H
        clear H
        go_wp2_with (first | (go_at_call 19; (with_reducible refine (impl_speed.calls a0 true _ A5.out).mono ?_); rintro e w' ⟨rfl, ⟨nd, rfl⟩⟩; (try first | exact ⟨rfl, _, World.drewN_drewN _ _ _⟩ | exact ⟨rfl, _, Eq.trans (World.drewN_drewN _ _ _) (congrArg (World.drewN _) (Nat.add_assoc _ _ _))⟩)) | (go_at_call 19; (with_reducible refine (impl_speed.calls a1 true _ A7.out).mono ?_); rintro e w' ⟨rfl, ⟨nd, rfl⟩⟩; (try first | exact ⟨rfl, _, World.drewN_drewN _ _ _⟩ | exact ⟨rfl, _, Eq.trans (World.drewN_drewN _ _ _) (congrArg (World.drewN _) (Nat.add_assoc _ _ _))⟩)) | (go_at_call 20; (with_reducible refine (impl_brake.calls a2 t104 _ A9.out).mono ?_); rintro e w' ⟨rfl, ⟨nd, rfl⟩⟩; (try first | exact ⟨rfl, _, World.drewN_drewN _ _ _⟩ | exact ⟨rfl, _, Eq.trans (World.drewN_drewN _ _ _) (congrArg (World.drewN _) (Nat.add_assoc _ _ _))⟩)))
        repeat (go_quiet (first | (go_at_call 19; (with_reducible refine (impl_speed.calls a0 true _ A5.out).mono ?_); rintro e w' ⟨rfl, ⟨nd, rfl⟩⟩; (try first | exact ⟨rfl, _, World.drewN_drewN _ _ _⟩ | exact ⟨rfl, _, Eq.trans (World.drewN_drewN _ _ _) (congrArg (World.drewN _) (Nat.add_assoc _ _ _))⟩)) | (go_at_call 19; (with_reducible refine (impl_speed.calls a1 true _ A7.out).mono ?_); rintro e w' ⟨rfl, ⟨nd, rfl⟩⟩; (try first | exact ⟨rfl, _, World.drewN_drewN _ _ _⟩ | exact ⟨rfl, _, Eq.trans (World.drewN_drewN _ _ _) (congrArg (World.drewN _) (Nat.add_assoc _ _ _))⟩)) | (go_at_call 20; (with_reducible refine (impl_brake.calls a2 t104 _ A9.out).mono ?_); rintro e w' ⟨rfl, ⟨nd, rfl⟩⟩; (try first | exact ⟨rfl, _, World.drewN_drewN _ _ _⟩ | exact ⟨rfl, _, Eq.trans (World.drewN_drewN _ _ _) (congrArg (World.drewN _) (Nat.add_assoc _ _ _))⟩))); try go_wp2_with (first | (go_at_call 19; (with_reducible refine (impl_speed.calls a0 true _ A5.out).mono ?_); rintro e w' ⟨rfl, ⟨nd, rfl⟩⟩; (try first | exact ⟨rfl, _, World.drewN_drewN _ _ _⟩ | exact ⟨rfl, _, Eq.trans (World.drewN_drewN _ _ _) (congrArg (World.drewN _) (Nat.add_assoc _ _ _))⟩)) | (go_at_call 19; (with_reducible refine (impl_speed.calls a1 true _ A7.out).mono ?_); rintro e w' ⟨rfl, ⟨nd, rfl⟩⟩; (try first | exact ⟨rfl, _, World.drewN_drewN _ _ _⟩ | exact ⟨rfl, _, Eq.trans (World.drewN_drewN _ _ _) (congrArg (World.drewN _) (Nat.add_assoc _ _ _))⟩)) | (go_at_call 20; (with_reducible refine (impl_brake.calls a2 t104 _ A9.out).mono ?_); rintro e w' ⟨rfl, ⟨nd, rfl⟩⟩; (try first | exact ⟨rfl, _, World.drewN_drewN _ _ _⟩ | exact ⟨rfl, _, Eq.trans (World.drewN_drewN _ _ _) (congrArg (World.drewN _) (Nat.add_assoc _ _ _))⟩))))
        go_meet
        case rel => exact ⟨_, (!t104), (by first | rfl | (simp; done) | (simp [*]; done)), H', ⟨by first | omega | exact Nat.le_refl _⟩, by repeat (first | exact Drawn0.refl _ | apply Drawn0.step)⟩
      · replace c8 := Bool.eq_false_iff.mpr c8
        subst c8
        have H1 : (impl_SlowLen.j0 k a0 a1 a2 true) = some r := by rw [if_neg (show ¬ (false = true) by decide)] at H; exact H
        clear H
        have H := H1
        clear H1
        have H' := Aside0.mk H
        clear H
        go_wp2_with (first | (go_at_call 19; (with_reducible refine (impl_speed.calls a0 true _ A5.out).mono ?_); rintro e w' ⟨rfl, ⟨nd, rfl⟩⟩; (try first | exact ⟨rfl, _, World.drewN_drewN _ _ _⟩ | exact ⟨rfl, _, Eq.trans (World.drewN_drewN _ _ _) (congrArg (World.drewN _) (Nat.add_assoc _ _ _))⟩)) | (go_at_call 19; (with_reducible refine (impl_speed.calls a1 false _ A7.out).mono ?_); rintro e w' ⟨rfl, ⟨nd, rfl⟩⟩; (try first | exact ⟨rfl, _, World.drewN_drewN _ _ _⟩ | exact ⟨rfl, _, Eq.trans (World.drewN_drewN _ _ _) (congrArg (World.drewN _) (Nat.add_assoc _ _ _))⟩)))
        repeat (go_quiet (first | (go_at_call 19; (with_reducible refine (impl_speed.calls a0 true _ A5.out).mono ?_); rintro e w' ⟨rfl, ⟨nd, rfl⟩⟩; (try first | exact ⟨rfl, _, World.drewN_drewN _ _ _⟩ | exact ⟨rfl, _, Eq.trans (World.drewN_drewN _ _ _) (congrArg (World.drewN _) (Nat.add_assoc _ _ _))⟩)) | (go_at_call 19; (with_reducible refine (impl_speed.calls a1 false _ A7.out).mono ?_); rintro e w' ⟨rfl, ⟨nd, rfl⟩⟩; (try first | exact ⟨rfl, _, World.drewN_drewN _ _ _⟩ | exact ⟨rfl, _, Eq.trans (World.drewN_drewN _ _ _) (congrArg (World.drewN _) (Nat.add_assoc _ _ _))⟩))); try go_wp2_with (first | (go_at_call 19; (with_reducible refine (impl_speed.calls a0 true _ A5.out).mono ?_); rintro e w' ⟨rfl, ⟨nd, rfl⟩⟩; (try first | exact ⟨rfl, _, World.drewN_drewN _ _ _⟩ | exact ⟨rfl, _, Eq.trans (World.drewN_drewN _ _ _) (congrArg (World.drewN _) (Nat.add_assoc _ _ _))⟩)) | (go_at_call 19; (with_reducible refine (impl_speed.calls a1 false _ A7.out).mono ?_); rintro e w' ⟨rfl, ⟨nd, rfl⟩⟩; (try first | exact ⟨rfl, _, World.drewN_drewN _ _ _⟩ | exact ⟨rfl, _, Eq.trans (World.drewN_drewN _ _ _) (congrArg (World.drewN _) (Nat.add_assoc _ _ _))⟩))))
        go_meet
        case rel => exact ⟨_, (true), (by first | rfl | (simp; done) | (simp [*]; done)), H', ⟨by first | omega | exact Nat.le_refl _⟩, by repeat (first | exact Drawn0.refl _ | apply Drawn0.step)⟩
    · replace c6 := Bool.eq_false_iff.mpr c6
      subst c6
      have H1 : (impl_SlowLen.j0 k a0 a1 a2 true) = some r := by rw [if_neg (show ¬ (false = true) by decide)] at H; exact H
      clear H
      have H := H1
      clear H1
      have H' := Aside0.mk H
      clear H
      go_wp2_with (first | (go_at_call 19; (with_reducible refine (impl_speed.calls a0 false _ A5.out).mono ?_); rintro e w' ⟨rfl, ⟨nd, rfl⟩⟩; (try first | exact ⟨rfl, _, World.drewN_drewN _ _ _⟩ | exact ⟨rfl, _, Eq.trans (World.drewN_drewN _ _ _) (congrArg (World.drewN _) (Nat.add_assoc _ _ _))⟩)))
      repeat (go_quiet (first | (go_at_call 19; (with_reducible refine (impl_speed.calls a0 false _ A5.out).mono ?_); rintro e w' ⟨rfl, ⟨nd, rfl⟩⟩; (try first | exact ⟨rfl, _, World.drewN_drewN _ _ _⟩ | exact ⟨rfl, _, Eq.trans (World.drewN_drewN _ _ _) (congrArg (World.drewN _) (Nat.add_assoc _ _ _))⟩))); try go_wp2_with (first | (go_at_call 19; (with_reducible refine (impl_speed.calls a0 false _ A5.out).mono ?_); rintro e w' ⟨rfl, ⟨nd, rfl⟩⟩; (try first | exact ⟨rfl, _, World.drewN_drewN _ _ _⟩ | exact ⟨rfl, _, Eq.trans (World.drewN_drewN _ _ _) (congrArg (World.drewN _) (Nat.add_assoc _ _ _))⟩))))
      go_meet
      case rel => exact ⟨_, (true), (by first | rfl | (simp; done) | (simp [*]; done)), H', ⟨by first | omega | exact Nat.le_refl _⟩, by repeat (first | exact Drawn0.refl _ | apply Drawn0.step)⟩
  case rest =>
    clear HC4
    try clear c1
    try clear p2
    try clear c6
    try clear c8
    obtain ⟨kq, x22_3, rfl, HA, HJ3, ⟨mc3, rfl⟩⟩ := hcut
    cases kq with
    | zero => exact absurd HA.out (by simp [impl_SlowLen.j0])
    | succ kj3 =>
      have H := HA.out
      clear HA
      simp only [impl_SlowLen.j0] at H
      by_cases c10 : x22_3 = true
      · subst c10
        have H1 : (some (-1)) = some r := by rw [if_pos rfl] at H; exact H
        clear H
        have H := H1
        clear H1
        obtain rfl := Option.some.inj H
        go_wp2
        repeat (go_quiet (fail); try go_wp2)
        go_ret
        exact ⟨by first | rfl | (simp; done) | (simp [*]; done), by repeat (first | exact Drawn0.refl _ | apply Drawn0.step)⟩
      · replace c10 := Bool.eq_false_iff.mpr c10
        subst c10
        have H1 : (if a0 ≤ a1 then (some 0) else (if a2 = 0 then (none) else (if (Int.tmod (wrap64 (a0 - a1)) a2) > 0 then (some (wrap64 ((wrap64 ((wrap64 ((wrap64 (Int.tdiv (wrap64 (a0 - a1)) a2)) * a0)) - (wrap64 (Int.tdiv (wrap64 ((wrap64 (a2 * (wrap64 (Int.tdiv (wrap64 (a0 - a1)) a2)))) * (wrap64 ((wrap64 (Int.tdiv (wrap64 (a0 - a1)) a2)) + 1)))) 2)))) + a1))) else (some (wrap64 ((wrap64 ((wrap64 (Int.tdiv (wrap64 (a0 - a1)) a2)) * a0)) - (wrap64 (Int.tdiv (wrap64 ((wrap64 (a2 * (wrap64 (Int.tdiv (wrap64 (a0 - a1)) a2)))) * (wrap64 ((wrap64 (Int.tdiv (wrap64 (a0 - a1)) a2)) + 1)))) 2)))))))) = some r := by rw [if_neg (show ¬ (false = true) by decide)] at H; exact H
        clear H
        have H := H1
        clear H1
        by_cases c11 : a0 ≤ a1
        · rw [if_pos c11] at H
          have c11b0 : decide (a0 ≤ a1) = true := decide_eq_true c11
          clear c11
          obtain rfl := Option.some.inj H
          go_wp2
          repeat (go_quiet (fail); try go_wp2)
          go_ret
          exact ⟨by first | rfl | (simp; done) | (simp [*]; done), by repeat (first | exact Drawn0.refl _ | apply Drawn0.step)⟩
        · rw [if_neg c11] at H
          have c11b0 : decide (a0 ≤ a1) = false := decide_eq_false c11
          clear c11
          by_cases c12 : a2 = 0
          · rw [if_pos c12] at H
            exact absurd H (by simp)
          · rw [if_neg c12] at H
            have c12b0 : (a2 == 0) = false := beq_eq_false_iff_ne.mpr c12
            have c12b1 : (a2 != 0) = true := bne_iff_ne.mpr c12
            by_cases c13 : (Int.tmod (wrap64 (a0 - a1)) a2) > 0
            · rw [if_pos c13] at H
              have c13b0 : decide (0 < (Int.tmod (wrap64 (a0 - a1)) a2)) = true := decide_eq_true c13
              clear c13
              obtain rfl := Option.some.inj H
              go_wp2
              repeat (go_quiet (fail); try go_wp2)
              go_ret
              exact ⟨by first | rfl | (simp; done) | (simp [*]; done), by repeat (first | exact Drawn0.refl _ | apply Drawn0.step)⟩
            · rw [if_neg c13] at H
              have c13b0 : decide (0 < (Int.tmod (wrap64 (a0 - a1)) a2)) = false := decide_eq_false c13
              clear c13
              obtain rfl := Option.some.inj H
              go_wp2
              repeat (go_quiet (fail); try go_wp2)
              go_ret
              exact ⟨by first | rfl | (simp; done) | (simp [*]; done), by repeat (first | exact Drawn0.refl _ | apply Drawn0.step)⟩

/-! ### impl_SlowTicks: function 12 -/
def impl_SlowTicks.j0 : Nat → Int → Int → Int → Bool → Option (Int)
  | 0, _, _, _, _ => none
  | k + 1, x0, x1, x2, x19 => if x19 = true then (some (-1)) else (if x0 ≤ x1 then (some 0) else (if x2 = 0 then (none) else (some (wrap64 (Int.tdiv (wrap64 ((wrap64 ((wrap64 (x0 - x1)) + x2)) - 1)) x2)))))
def impl_SlowTicks.f (k : Nat) (a0 : Int) (a1 : Int) (a2 : Int) : Option (Int) := (impl_speed.f a0).bind fun t105 => (if t105 = true then ((impl_speed.f a1).bind fun t106 => (if t106 = true then ((impl_brake.f a2).bind fun t107 => (impl_SlowTicks.j0 k a0 a1 a2 (!t107))) else (impl_SlowTicks.j0 k a0 a1 a2 true))) else (impl_SlowTicks.j0 k a0 a1 a2 true))
theorem impl_SlowTicks.mono_l : ∀ k, (∀ y0 y1 y2 y3, LeO (impl_SlowTicks.j0 k y0 y1 y2 y3) (impl_SlowTicks.j0 (k + 1) y0 y1 y2 y3))
  | 0 => fun _ _ _ _ r h => by simp [impl_SlowTicks.j0] at h
  | k + 1 => by
    have ih0 := impl_SlowTicks.mono_l k
    · intro y0 y1 y2 y3
      unfold impl_SlowTicks.j0
      repeat' first
      | (with_reducible exact ih0 _ _ _ _)
      | (with_reducible exact LeO.refl _)
      | (with_reducible exact LeO.none _)
      | (with_reducible refine LeO.ite ?_ ?_)
      | (with_reducible refine LeO.bind ?_ (fun _ => ?_))
      | exact ih0 _ _ _ _
      | exact LeO.none _
      | refine LeO.ite ?_ ?_
      | refine LeO.bind ?_ (fun _ => ?_)
theorem impl_SlowTicks.mono : ∀ a0 a1 a2 k, LeO (impl_SlowTicks.f k a0 a1 a2) (impl_SlowTicks.f (k + 1) a0 a1 a2) := by
  intro a0 a1 a2 k
  have ih0 := impl_SlowTicks.mono_l k
  unfold impl_SlowTicks.f
  repeat' first
      | (with_reducible exact ih0 _ _ _ _)
      | (with_reducible exact LeO.refl _)
      | (with_reducible exact LeO.none _)
      | (with_reducible refine LeO.ite ?_ ?_)
      | (with_reducible refine LeO.bind ?_ (fun _ => ?_))
      | exact ih0 _ _ _ _
      | exact LeO.none _
      | refine LeO.ite ?_ ?_
      | refine LeO.bind ?_ (fun _ => ?_)
set_option maxHeartbeats 8000000 in
set_option maxRecDepth 100000 in
theorem impl_SlowTicks.calls (k : Nat) (a0 : Int) (a1 : Int) (a2 : Int) (r : Int) (w : World) (h : impl_SlowTicks.f k a0 a1 a2 = some r) :
    Calls Try.prog 12 #[.int .i64 a0, .int .i64 a1, .int .i64 a2] w fun e w' => e = .returned (.int .i64 r) ∧ Drawn0 w w' := by
  have H : ((impl_speed.f a0).bind fun t105 => (if t105 = true then ((impl_speed.f a1).bind fun t106 => (if t106 = true then ((impl_brake.f a2).bind fun t107 => (impl_SlowTicks.j0 k a0 a1 a2 (!t107))) else (impl_SlowTicks.j0 k a0 a1 a2 true))) else (impl_SlowTicks.j0 k a0 a1 a2 true))) = some r := h
  clear h
  have HC4 := Aside0.mk H
  clear H
  go_enter Try.func12, Try.ntmps12
  go_upto_region 1 with (fail)
  go_cut [19] (fun v19 wc => ∃ (kq : Nat) (x19_3 : Bool), v19 = .bool x19_3 ∧ Aside0 (impl_SlowTicks.j0 kq a0 a1 a2 x19_3 = some r) ∧ Aside0 (kq ≤ k) ∧ Drawn0 w wc)
  case first =>
    have H := HC4.out
    clear HC4
    replace H := Option.bind_eq_some_iff.mp H
    obtain ⟨t105, A50, H⟩ := H
    replace H : (if t105 = true then ((impl_speed.f a1).bind fun t106 => (if t106 = true then ((impl_brake.f a2).bind fun t107 => (impl_SlowTicks.j0 k a0 a1 a2 (!t107))) else (impl_SlowTicks.j0 k a0 a1 a2 true))) else (impl_SlowTicks.j0 k a0 a1 a2 true)) = some r := H
    have A5 := Aside0.mk A50
    clear A50
    by_cases c6 : t105 = true
    · subst c6
      have H1 : ((impl_speed.f a1).bind fun t106 => (if t106 = true then ((impl_brake.f a2).bind fun t107 => (impl_SlowTicks.j0 k a0 a1 a2 (!t107))) else (impl_SlowTicks.j0 k a0 a1 a2 true))) = some r := by rw [if_pos rfl] at H; exact H
      clear H
      have H := H1
      clear H1
      replace H := Option.bind_eq_some_iff.mp H
      obtain ⟨t106, A70, H⟩ := H
      replace H : (if t106 = true then ((impl_brake.f a2).bind fun t107 => (impl_SlowTicks.j0 k a0 a1 a2 (!t107))) else (impl_SlowTicks.j0 k a0 a1 a2 true)) = some r := H
      have A7 := Aside0.mk A70
      clear A70
      by_cases c8 : t106 = true
      · subst c8
        have H1 : ((impl_brake.f a2).bind fun t107 => (impl_SlowTicks.j0 k a0 a1 a2 (!t107))) = some r := by rw [if_pos rfl] at H; exact H
        clear H
        have H := H1
        clear H1
        replace H := Option.bind_eq_some_iff.mp H
        obtain ⟨t107, A90, H⟩ := H
        replace H : (impl_SlowTicks.j0 k a0 a1 a2 (!t107)) = some r := H
        have A9 := Aside0.mk A90
        clear A90
        have H' := Aside0.mk H
        clear H
        go_wp2_with (first | ((with_reducible refine gate_callee (f := 19) rfl ?_); refine goesL_ (some 8) rfl rfl Try.func19 (by kernel_rfl) rfl #[.int .i64 a0] rfl (by (try simp only [List.map_toArray, List.map_cons, List.map_nil]); first | done | rfl | (simp only [List.length_drop, List.length_take]; rfl)) ?_; (with_reducible refine (impl_speed.calls a0 true _ A5.out).mono ?_); rintro e w' ⟨rfl, ⟨nd, rfl⟩⟩; refine ⟨_, rfl, ?_⟩) | (go_at_call 19; (with_reducible refine (impl_speed.calls a1 true _ A7.out).mono ?_); rintro e w' ⟨rfl, ⟨nd, rfl⟩⟩) | (go_at_call 20; (with_reducible refine (impl_brake.calls a2 t107 _ A9.out).mono ?_); rintro e w' ⟨rfl, ⟨nd, rfl⟩⟩))
        go_meet
        case rel => exact ⟨_, (!t107), (by first | rfl | (simp; done) | (simp [*]; done)), H', ⟨by first | omega | exact Nat.le_refl _⟩, by repeat (first | exact Drawn0.refl _ | apply Drawn0.step)⟩
      · replace c8 := Bool.eq_false_iff.mpr c8
        subst c8
        have H1 : (impl_SlowTicks.j0 k a0 a1 a2 true) = some r := by rw [if_neg (show ¬ (false = true) by decide)] at H; exact H
        clear H
        have H := H1
        clear H1
        have H' := Aside0.mk H
        clear H
        go_wp2_with (first | ((with_reducible refine gate_callee (f := 19) rfl ?_); refine goesL_ (some 8) rfl rfl Try.func19 (by kernel_rfl) rfl #[.int .i64 a0] rfl (by (try simp only [List.map_toArray, List.map_cons, List.map_nil]); first | done | rfl | (simp only [List.length_drop, List.length_take]; rfl)) ?_; (with_reducible refine (impl_speed.calls a0 true _ A5.out).mono ?_); rintro e w' ⟨rfl, ⟨nd, rfl⟩⟩; refine ⟨_, rfl, ?_⟩) | (go_at_call 19; (with_reducible refine (impl_speed.calls a1 false _ A7.out).mono ?_); rintro e w' ⟨rfl, ⟨nd, rfl⟩⟩))
        go_meet
        case rel => exact ⟨_, (true), (by first | rfl | (simp; done) | (simp [*]; done)), H', ⟨by first | omega | exact Nat.le_refl _⟩, by repeat (first | exact Drawn0.refl _ | apply Drawn0.step)⟩
    · replace c6 := Bool.eq_false_iff.mpr c6
      subst c6
      have H1 : (impl_SlowTicks.j0 k a0 a1 a2 true) = some r := by rw [if_neg (show ¬ (false = true) by decide)] at H; exact H
      clear H
      have H := H1
      clear H1
      have H' := Aside0.mk H
      clear H
      go_wp2_with (first | ((with_reducible refine gate_callee (f := 19) rfl ?_); refine goesL_ (some 8) rfl rfl Try.func19 (by kernel_rfl) rfl #[.int .i64 a0] rfl (by (try simp only [List.map_toArray, List.map_cons, List.map_nil]); first | done | rfl | (simp only [List.length_drop, List.length_take]; rfl)) ?_; (with_reducible refine (impl_speed.calls a0 false _ A5.out).mono ?_); rintro e w' ⟨rfl, ⟨nd, rfl⟩⟩; refine ⟨_, rfl, ?_⟩))
      go_meet
      case rel => exact ⟨_, (true), (by first | rfl | (simp; done) | (simp [*]; done)), H', ⟨by first | omega | exact Nat.le_refl _⟩, by repeat (first | exact Drawn0.refl _ | apply Drawn0.step)⟩
  case rest =>
    clear HC4
    try clear c1
    try clear p2
    try clear c6
    try clear c8
    obtain ⟨kq, x19_3, rfl, HA, HJ3, ⟨mc3, rfl⟩⟩ := hcut
    cases kq with
    | zero => exact absurd HA.out (by simp [impl_SlowTicks.j0])
    | succ kj3 =>
      have H := HA.out
      clear HA
      simp only [impl_SlowTicks.j0] at H
      by_cases c10 : x19_3 = true
      · subst c10
        have H1 : (some (-1)) = some r := by rw [if_pos rfl] at H; exact H
        clear H
        have H := H1
        clear H1
        obtain rfl := Option.some.inj H
        go_wp2
        go_ret
        exact ⟨by first | rfl | (simp; done) | (simp [*]; done), by repeat (first | exact Drawn0.refl _ | apply Drawn0.step)⟩
      · replace c10 := Bool.eq_false_iff.mpr c10
        subst c10
        have H1 : (if a0 ≤ a1 then (some 0) else (if a2 = 0 then (none) else (some (wrap64 (Int.tdiv (wrap64 ((wrap64 ((wrap64 (a0 - a1)) + a2)) - 1)) a2))))) = some r := by rw [if_neg (show ¬ (false = true) by decide)] at H; exact H
        clear H
        have H := H1
        clear H1
        by_cases c11 : a0 ≤ a1
        · rw [if_pos c11] at H
          have c11b0 : decide (a0 ≤ a1) = true := decide_eq_true c11
          clear c11
          obtain rfl := Option.some.inj H
          go_wp2
          go_ret
          exact ⟨by first | rfl | (simp; done) | (simp [*]; done), by repeat (first | exact Drawn0.refl _ | apply Drawn0.step)⟩
        · rw [if_neg c11] at H
          have c11b0 : decide (a0 ≤ a1) = false := decide_eq_false c11
          clear c11
          by_cases c12 : a2 = 0
          · rw [if_pos c12] at H
            exact absurd H (by simp)
          · rw [if_neg c12] at H
            have c12b0 : (a2 == 0) = false := beq_eq_false_iff_ne.mpr c12
            have c12b1 : (a2 != 0) = true := bne_iff_ne.mpr c12
            obtain rfl := Option.some.inj H
            go_wp2
            go_ret
            exact ⟨by first | rfl | (simp; done) | (simp [*]; done), by repeat (first | exact Drawn0.refl _ | apply Drawn0.step)⟩

/-! ### laws_FnSums: function 4 -/
mutual
def laws_FnSums.j0 : Nat → List Int → Int → Int → Int → Int → Int → Option (Bool)
  | 0, _, _, _, _, _, _ => none
  | k + 1, x0, x3, x4, x5, x6, x7 => (impl_SlowLen.f k x6 0 x3).bind fun t112 => (if t112 = (wrap64 ((wrap64 (x4 * x5)) + (wrap64 (Int.tdiv (wrap64 ((wrap64 (x3 * x4)) * (wrap64 (x4 - 1)))) 2)))) then ((impl_SlowTicks.f k x6 0 x3).bind fun t113 => (laws_FnSums.j1 k x0 x3 x4 x5 x6 x7 (t113 != x7))) else (laws_FnSums.j1 k x0 x3 x4 x5 x6 x7 true))
def laws_FnSums.j1 : Nat → List Int → Int → Int → Int → Int → Int → Bool → Option (Bool)
  | 0, _, _, _, _, _, _, _ => none
  | k + 1, x0, x3, x4, x5, x6, x7, x59 => if x59 = true then (some false) else (if x4 > 0 then ((laws_wByte.f x0 3).bind fun t114 => (if (wrap64 (x4 + 1)) = 0 then (none) else (laws_FnSums.j2 k x3 x6 x7 (wrap64 (x6 - (wrap64 (x3 * (Int.tmod t114 (wrap64 (x4 + 1)))))))))) else (laws_FnSums.j2 k x3 x6 x7 x5))
def laws_FnSums.j2 : Nat → Int → Int → Int → Int → Option (Bool)
  | 0, _, _, _, _ => none
  | k + 1, x3, x6, x7, x8 => (impl_SlowLen.f k x6 x8 x3).bind fun t115 => ((impl_SlowLen.f k x8 0 x3).bind fun t116 => ((impl_SlowLen.f k x6 0 x3).bind fun t117 => (if (wrap64 (t115 + t116)) = t117 then ((impl_SlowTicks.f k x6 x8 x3).bind fun t118 => ((impl_SlowTicks.f k x8 0 x3).bind fun t119 => (some ((wrap64 (t118 + t119)) == x7)))) else (some false))))
end
def laws_FnSums.f (k : Nat) (l0 : List Int) : Option (Bool) := if (l0.length : Int) > 1048576 then (some true) else ((laws_wByte.f l0 0).bind fun t108 => ((laws_wByte.f l0 1).bind fun t109 => ((laws_wByte.f l0 2).bind fun t110 => (if (wrap64 (10 + t108)) = 0 then (none) else (if (wrap64 ((wrap64 ((Int.tmod t109 30) * (wrap64 (10 + t108)))) + (Int.tmod t110 (wrap64 (10 + t108))))) > 10000 then ((impl_SlowLen.f k (wrap64 ((wrap64 ((Int.tmod t109 30) * (wrap64 (10 + t108)))) + (Int.tmod t110 (wrap64 (10 + t108))))) 0 (wrap64 (10 + t108))).bind fun t111 => (some (t111 == (-1)))) else (if (Int.tmod t110 (wrap64 (10 + t108))) > 0 then (laws_FnSums.j0 k l0 (wrap64 (10 + t108)) (Int.tmod t109 30) (Int.tmod t110 (wrap64 (10 + t108))) (wrap64 ((wrap64 ((Int.tmod t109 30) * (wrap64 (10 + t108)))) + (Int.tmod t110 (wrap64 (10 + t108))))) (wrap64 ((Int.tmod t109 30) + 1))) else (laws_FnSums.j0 k l0 (wrap64 (10 + t108)) (Int.tmod t109 30) (Int.tmod t110 (wrap64 (10 + t108))) (wrap64 ((wrap64 ((Int.tmod t109 30) * (wrap64 (10 + t108)))) + (Int.tmod t110 (wrap64 (10 + t108))))) (Int.tmod t109 30))))))))
theorem laws_FnSums.mono_l : ∀ k, (∀ y0 y1 y2 y3 y4 y5, LeO (laws_FnSums.j0 k y0 y1 y2 y3 y4 y5) (laws_FnSums.j0 (k + 1) y0 y1 y2 y3 y4 y5)) ∧ (∀ y0 y1 y2 y3 y4 y5 y6, LeO (laws_FnSums.j1 k y0 y1 y2 y3 y4 y5 y6) (laws_FnSums.j1 (k + 1) y0 y1 y2 y3 y4 y5 y6)) ∧ (∀ y0 y1 y2 y3, LeO (laws_FnSums.j2 k y0 y1 y2 y3) (laws_FnSums.j2 (k + 1) y0 y1 y2 y3))
  | 0 => ⟨fun _ _ _ _ _ _ r h => by simp [laws_FnSums.j0] at h, fun _ _ _ _ _ _ _ r h => by simp [laws_FnSums.j1] at h, fun _ _ _ _ r h => by simp [laws_FnSums.j2] at h⟩
  | k + 1 => by
    obtain ⟨ih0, ih1, ih2⟩ := laws_FnSums.mono_l k
    refine ⟨?_, ?_, ?_⟩
    · intro y0 y1 y2 y3 y4 y5
      unfold laws_FnSums.j0
      repeat' first
      | (with_reducible exact ih0 _ _ _ _ _ _)
      | (with_reducible exact ih1 _ _ _ _ _ _ _)
      | (with_reducible exact ih2 _ _ _ _)
      | (with_reducible exact impl_SlowLen.mono _ _ _ _)
      | (with_reducible exact impl_SlowTicks.mono _ _ _ _)
      | (with_reducible exact LeO.refl _)
      | (with_reducible exact LeO.none _)
      | (with_reducible refine LeO.ite ?_ ?_)
      | (with_reducible refine LeO.bind ?_ (fun _ => ?_))
      | exact ih0 _ _ _ _ _ _
      | exact ih1 _ _ _ _ _ _ _
      | exact ih2 _ _ _ _
      | exact impl_SlowLen.mono _ _ _ _
      | exact impl_SlowTicks.mono _ _ _ _
      | exact LeO.none _
      | refine LeO.ite ?_ ?_
      | refine LeO.bind ?_ (fun _ => ?_)
    · intro y0 y1 y2 y3 y4 y5 y6
      unfold laws_FnSums.j1
      repeat' first
      | (with_reducible exact ih0 _ _ _ _ _ _)
      | (with_reducible exact ih1 _ _ _ _ _ _ _)
      | (with_reducible exact ih2 _ _ _ _)
      | (with_reducible exact impl_SlowLen.mono _ _ _ _)
      | (with_reducible exact impl_SlowTicks.mono _ _ _ _)
      | (with_reducible exact LeO.refl _)
      | (with_reducible exact LeO.none _)
      | (with_reducible refine LeO.ite ?_ ?_)
      | (with_reducible refine LeO.bind ?_ (fun _ => ?_))
      | exact ih0 _ _ _ _ _ _
      | exact ih1 _ _ _ _ _ _ _
      | exact ih2 _ _ _ _
      | exact impl_SlowLen.mono _ _ _ _
      | exact impl_SlowTicks.mono _ _ _ _
      | exact LeO.none _
      | refine LeO.ite ?_ ?_
      | refine LeO.bind ?_ (fun _ => ?_)
    · intro y0 y1 y2 y3
      unfold laws_FnSums.j2
      repeat' first
      | (with_reducible exact ih0 _ _ _ _ _ _)
      | (with_reducible exact ih1 _ _ _ _ _ _ _)
      | (with_reducible exact ih2 _ _ _ _)
      | (with_reducible exact impl_SlowLen.mono _ _ _ _)
      | (with_reducible exact impl_SlowTicks.mono _ _ _ _)
      | (with_reducible exact LeO.refl _)
      | (with_reducible exact LeO.none _)
      | (with_reducible refine LeO.ite ?_ ?_)
      | (with_reducible refine LeO.bind ?_ (fun _ => ?_))
      | exact ih0 _ _ _ _ _ _
      | exact ih1 _ _ _ _ _ _ _
      | exact ih2 _ _ _ _
      | exact impl_SlowLen.mono _ _ _ _
      | exact impl_SlowTicks.mono _ _ _ _
      | exact LeO.none _
      | refine LeO.ite ?_ ?_
      | refine LeO.bind ?_ (fun _ => ?_)
theorem laws_FnSums.mono : ∀ a0 k, LeO (laws_FnSums.f k a0) (laws_FnSums.f (k + 1) a0) := by
  intro a0 k
  obtain ⟨ih0, ih1, ih2⟩ := laws_FnSums.mono_l k
  unfold laws_FnSums.f
  repeat' first
      | (with_reducible exact ih0 _ _ _ _ _ _)
      | (with_reducible exact ih1 _ _ _ _ _ _ _)
      | (with_reducible exact ih2 _ _ _ _)
      | (with_reducible exact impl_SlowLen.mono _ _ _ _)
      | (with_reducible exact impl_SlowTicks.mono _ _ _ _)
      | (with_reducible exact LeO.refl _)
      | (with_reducible exact LeO.none _)
      | (with_reducible refine LeO.ite ?_ ?_)
      | (with_reducible refine LeO.bind ?_ (fun _ => ?_))
      | exact ih0 _ _ _ _ _ _
      | exact ih1 _ _ _ _ _ _ _
      | exact ih2 _ _ _ _
      | exact impl_SlowLen.mono _ _ _ _
      | exact impl_SlowTicks.mono _ _ _ _
      | exact LeO.none _
      | refine LeO.ite ?_ ?_
      | refine LeO.bind ?_ (fun _ => ?_)
set_option maxHeartbeats 8000000 in
set_option maxRecDepth 100000 in
theorem laws_FnSums.calls (k : Nat) (A0 : Option Addr) (c0 : Nat) (l0 : List Int) (r : Bool) (w : World) (hr0 : Kd.C (Kd.int .u8) w A0 l0.length l0) (hc0 : l0.length ≤ c0) (h : laws_FnSums.f k l0 = some r) :
    Calls Try.prog 4 #[.slice A0 l0.length c0] w fun e w' => e = .returned (.bool r) ∧ Drawn0 w w' := by
  have HR0 := Aside0.mk hr0
  have HC0 := Aside0.mk hc0
  clear hr0 hc0
  have H : (if (l0.length : Int) > 1048576 then (some true) else ((laws_wByte.f l0 0).bind fun t108 => ((laws_wByte.f l0 1).bind fun t109 => ((laws_wByte.f l0 2).bind fun t110 => (if (wrap64 (10 + t108)) = 0 then (none) else (if (wrap64 ((wrap64 ((Int.tmod t109 30) * (wrap64 (10 + t108)))) + (Int.tmod t110 (wrap64 (10 + t108))))) > 10000 then ((impl_SlowLen.f k (wrap64 ((wrap64 ((Int.tmod t109 30) * (wrap64 (10 + t108)))) + (Int.tmod t110 (wrap64 (10 + t108))))) 0 (wrap64 (10 + t108))).bind fun t111 => (some (t111 == (-1)))) else (if (Int.tmod t110 (wrap64 (10 + t108))) > 0 then (laws_FnSums.j0 k l0 (wrap64 (10 + t108)) (Int.tmod t109 30) (Int.tmod t110 (wrap64 (10 + t108))) (wrap64 ((wrap64 ((Int.tmod t109 30) * (wrap64 (10 + t108)))) + (Int.tmod t110 (wrap64 (10 + t108))))) (wrap64 ((Int.tmod t109 30) + 1))) else (laws_FnSums.j0 k l0 (wrap64 (10 + t108)) (Int.tmod t109 30) (Int.tmod t110 (wrap64 (10 + t108))) (wrap64 ((wrap64 ((Int.tmod t109 30) * (wrap64 (10 + t108)))) + (Int.tmod t110 (wrap64 (10 + t108))))) (Int.tmod t109 30))))))))) = some r := h
  clear h
  by_cases c2 : (l0.length : Int) > 1048576
  · rw [if_pos c2] at H
    have c2b0 : decide (1048576 < (l0.length : Int)) = true := decide_eq_true c2
    have c2b1 : decide (1048576 < l0.length) = true := decide_eq_true (by omega)
    clear c2
    obtain rfl := Option.some.inj H
    go_enter Try.func4, Try.ntmps4
    go_wp2
    go_ret
    exact ⟨by first | rfl | (simp; done) | (simp [*]; done), by repeat (first | exact Drawn0.refl _ | apply Drawn0.step)⟩
  · rw [if_neg c2] at H
    have c2b0 : decide (1048576 < (l0.length : Int)) = false := decide_eq_false c2
    have c2b1 : decide (1048576 < l0.length) = false := decide_eq_false (by omega)
    clear c2
    replace H := Option.bind_eq_some_iff.mp H
    obtain ⟨t108, A30, H⟩ := H
    replace H : ((laws_wByte.f l0 1).bind fun t109 => ((laws_wByte.f l0 2).bind fun t110 => (if (wrap64 (10 + t108)) = 0 then (none) else (if (wrap64 ((wrap64 ((Int.tmod t109 30) * (wrap64 (10 + t108)))) + (Int.tmod t110 (wrap64 (10 + t108))))) > 10000 then ((impl_SlowLen.f k (wrap64 ((wrap64 ((Int.tmod t109 30) * (wrap64 (10 + t108)))) + (Int.tmod t110 (wrap64 (10 + t108))))) 0 (wrap64 (10 + t108))).bind fun t111 => (some (t111 == (-1)))) else (if (Int.tmod t110 (wrap64 (10 + t108))) > 0 then (laws_FnSums.j0 k l0 (wrap64 (10 + t108)) (Int.tmod t109 30) (Int.tmod t110 (wrap64 (10 + t108))) (wrap64 ((wrap64 ((Int.tmod t109 30) * (wrap64 (10 + t108)))) + (Int.tmod t110 (wrap64 (10 + t108))))) (wrap64 ((Int.tmod t109 30) + 1))) else (laws_FnSums.j0 k l0 (wrap64 (10 + t108)) (Int.tmod t109 30) (Int.tmod t110 (wrap64 (10 + t108))) (wrap64 ((wrap64 ((Int.tmod t109 30) * (wrap64 (10 + t108)))) + (Int.tmod t110 (wrap64 (10 + t108))))) (Int.tmod t109 30))))))) = some r := H
    have A3 := Aside0.mk A30
    clear A30
    replace H := Option.bind_eq_some_iff.mp H
    obtain ⟨t109, A40, H⟩ := H
    replace H : ((laws_wByte.f l0 2).bind fun t110 => (if (wrap64 (10 + t108)) = 0 then (none) else (if (wrap64 ((wrap64 ((Int.tmod t109 30) * (wrap64 (10 + t108)))) + (Int.tmod t110 (wrap64 (10 + t108))))) > 10000 then ((impl_SlowLen.f k (wrap64 ((wrap64 ((Int.tmod t109 30) * (wrap64 (10 + t108)))) + (Int.tmod t110 (wrap64 (10 + t108))))) 0 (wrap64 (10 + t108))).bind fun t111 => (some (t111 == (-1)))) else (if (Int.tmod t110 (wrap64 (10 + t108))) > 0 then (laws_FnSums.j0 k l0 (wrap64 (10 + t108)) (Int.tmod t109 30) (Int.tmod t110 (wrap64 (10 + t108))) (wrap64 ((wrap64 ((Int.tmod t109 30) * (wrap64 (10 + t108)))) + (Int.tmod t110 (wrap64 (10 + t108))))) (wrap64 ((Int.tmod t109 30) + 1))) else (laws_FnSums.j0 k l0 (wrap64 (10 + t108)) (Int.tmod t109 30) (Int.tmod t110 (wrap64 (10 + t108))) (wrap64 ((wrap64 ((Int.tmod t109 30) * (wrap64 (10 + t108)))) + (Int.tmod t110 (wrap64 (10 + t108))))) (Int.tmod t109 30)))))) = some r := H
    have A4 := Aside0.mk A40
    clear A40
    replace H := Option.bind_eq_some_iff.mp H
    obtain ⟨t110, A50, H⟩ := H
    replace H : (if (wrap64 (10 + t108)) = 0 then (none) else (if (wrap64 ((wrap64 ((Int.tmod t109 30) * (wrap64 (10 + t108)))) + (Int.tmod t110 (wrap64 (10 + t108))))) > 10000 then ((impl_SlowLen.f k (wrap64 ((wrap64 ((Int.tmod t109 30) * (wrap64 (10 + t108)))) + (Int.tmod t110 (wrap64 (10 + t108))))) 0 (wrap64 (10 + t108))).bind fun t111 => (some (t111 == (-1)))) else (if (Int.tmod t110 (wrap64 (10 + t108))) > 0 then (laws_FnSums.j0 k l0 (wrap64 (10 + t108)) (Int.tmod t109 30) (Int.tmod t110 (wrap64 (10 + t108))) (wrap64 ((wrap64 ((Int.tmod t109 30) * (wrap64 (10 + t108)))) + (Int.tmod t110 (wrap64 (10 + t108))))) (wrap64 ((Int.tmod t109 30) + 1))) else (laws_FnSums.j0 k l0 (wrap64 (10 + t108)) (Int.tmod t109 30) (Int.tmod t110 (wrap64 (10 + t108))) (wrap64 ((wrap64 ((Int.tmod t109 30) * (wrap64 (10 + t108)))) + (Int.tmod t110 (wrap64 (10 + t108))))) (Int.tmod t109 30))))) = some r := H
    have A5 := Aside0.mk A50
    clear A50
    by_cases c6 : (wrap64 (10 + t108)) = 0
    · rw [if_pos c6] at H
      exact absurd H (by simp)
    · rw [if_neg c6] at H
      have c6b0 : ((wrap64 (10 + t108)) == 0) = false := beq_eq_false_iff_ne.mpr c6
      have c6b1 : ((wrap64 (10 + t108)) != 0) = true := bne_iff_ne.mpr c6
      by_cases c7 : (wrap64 ((wrap64 ((Int.tmod t109 30) * (wrap64 (10 + t108)))) + (Int.tmod t110 (wrap64 (10 + t108))))) > 10000
      · rw [if_pos c7] at H
        have c7b0 : decide (10000 < (wrap64 ((wrap64 ((Int.tmod t109 30) * (wrap64 (10 + t108)))) + (Int.tmod t110 (wrap64 (10 + t108)))))) = true := decide_eq_true c7
        clear c7
        replace H := Option.bind_eq_some_iff.mp H
        obtain ⟨t111, A80, H⟩ := H
        replace H : (some (t111 == (-1))) = some r := H
        have A8 := Aside0.mk A80
        clear A80
        obtain rfl := Option.some.inj H
        go_enter Try.func4, Try.ntmps4
        go_wp2_with (first | ((with_reducible refine gate_callee (f := 10) rfl ?_); refine goesL_ (some 13) rfl rfl Try.func10 (by kernel_rfl) rfl #[.slice A0 l0.length c0, .int .i64 0] rfl (by (try simp only [List.map_toArray, List.map_cons, List.map_nil]); first | done | rfl | (simp only [List.length_drop, List.length_take]; rfl)) ?_; (with_reducible refine (laws_wByte.calls _ _ l0 0 t108 _ ?side1 ?side2 A3.out).mono ?_); (case side1 => repeat (first | exact HR0.out | (with_reducible refine Kd.C_alloc ?_ _) | (with_reducible refine Kd.C_drewN ?_ _) | (with_reducible refine Kd.C_drew ?_))); (case side2 => exact HC0.out); rintro e w' ⟨rfl, ⟨nd, rfl⟩⟩; refine ⟨_, rfl, ?_⟩) | ((with_reducible refine gate_callee (f := 10) rfl ?_); refine goesL_ (some 16) rfl rfl Try.func10 (by kernel_rfl) rfl #[.slice A0 l0.length c0, .int .i64 1] rfl (by (try simp only [List.map_toArray, List.map_cons, List.map_nil]); first | done | rfl | (simp only [List.length_drop, List.length_take]; rfl)) ?_; (with_reducible refine (laws_wByte.calls _ _ l0 1 t109 _ ?side1 ?side2 A4.out).mono ?_); (case side1 => repeat (first | exact HR0.out | (with_reducible refine Kd.C_alloc ?_ _) | (with_reducible refine Kd.C_drewN ?_ _) | (with_reducible refine Kd.C_drew ?_))); (case side2 => exact HC0.out); rintro e w' ⟨rfl, ⟨nd, rfl⟩⟩; refine ⟨_, rfl, ?_⟩) | ((with_reducible refine gate_callee (f := 10) rfl ?_); refine goesL_ (some 19) rfl rfl Try.func10 (by kernel_rfl) rfl #[.slice A0 l0.length c0, .int .i64 2] rfl (by (try simp only [List.map_toArray, List.map_cons, List.map_nil]); first | done | rfl | (simp only [List.length_drop, List.length_take]; rfl)) ?_; (with_reducible refine (laws_wByte.calls _ _ l0 2 t110 _ ?side1 ?side2 A5.out).mono ?_); (case side1 => repeat (first | exact HR0.out | (with_reducible refine Kd.C_alloc ?_ _) | (with_reducible refine Kd.C_drewN ?_ _) | (with_reducible refine Kd.C_drew ?_))); (case side2 => exact HC0.out); rintro e w' ⟨rfl, ⟨nd, rfl⟩⟩; refine ⟨_, rfl, ?_⟩) | ((with_reducible refine gate_callee (f := 11) rfl ?_); refine goesL_ (some 31) rfl rfl Try.func11 (by kernel_rfl) rfl #[.int .i64 (wrap64 ((wrap64 ((Int.tmod t109 30) * (wrap64 (10 + t108)))) + (Int.tmod t110 (wrap64 (10 + t108))))), .int .i64 0, .int .i64 (wrap64 (10 + t108))] rfl (by (try simp only [List.map_toArray, List.map_cons, List.map_nil]); first | done | rfl | (simp only [List.length_drop, List.length_take]; rfl)) ?_; (with_reducible refine (impl_SlowLen.calls k (wrap64 ((wrap64 ((Int.tmod t109 30) * (wrap64 (10 + t108)))) + (Int.tmod t110 (wrap64 (10 + t108))))) 0 (wrap64 (10 + t108)) t111 _ A8.out).mono ?_); rintro e w' ⟨rfl, ⟨nd, rfl⟩⟩; refine ⟨_, rfl, ?_⟩))
        go_ret
        exact ⟨by first | rfl | (simp; done) | (simp [*]; done), by repeat (first | exact Drawn0.refl _ | apply Drawn0.step)⟩
      · rw [if_neg c7] at H
        have c7b0 : decide (10000 < (wrap64 ((wrap64 ((Int.tmod t109 30) * (wrap64 (10 + t108)))) + (Int.tmod t110 (wrap64 (10 + t108)))))) = false := decide_eq_false c7
        clear c7
        have HC9 := Aside0.mk H
        clear H
        go_enter Try.func4, Try.ntmps4
        go_upto_if 35 with (first | ((with_reducible refine gate_callee (f := 10) rfl ?_); refine goesL_ (some 13) rfl rfl Try.func10 (by kernel_rfl) rfl #[.slice A0 l0.length c0, .int .i64 0] rfl (by (try simp only [List.map_toArray, List.map_cons, List.map_nil]); first | done | rfl | (simp only [List.length_drop, List.length_take]; rfl)) ?_; (with_reducible refine (laws_wByte.calls _ _ l0 0 t108 _ ?side1 ?side2 A3.out).mono ?_); (case side1 => repeat (first | exact HR0.out | (with_reducible refine Kd.C_alloc ?_ _) | (with_reducible refine Kd.C_drewN ?_ _) | (with_reducible refine Kd.C_drew ?_))); (case side2 => exact HC0.out); rintro e w' ⟨rfl, ⟨nd, rfl⟩⟩; refine ⟨_, rfl, ?_⟩) | ((with_reducible refine gate_callee (f := 10) rfl ?_); refine goesL_ (some 16) rfl rfl Try.func10 (by kernel_rfl) rfl #[.slice A0 l0.length c0, .int .i64 1] rfl (by (try simp only [List.map_toArray, List.map_cons, List.map_nil]); first | done | rfl | (simp only [List.length_drop, List.length_take]; rfl)) ?_; (with_reducible refine (laws_wByte.calls _ _ l0 1 t109 _ ?side1 ?side2 A4.out).mono ?_); (case side1 => repeat (first | exact HR0.out | (with_reducible refine Kd.C_alloc ?_ _) | (with_reducible refine Kd.C_drewN ?_ _) | (with_reducible refine Kd.C_drew ?_))); (case side2 => exact HC0.out); rintro e w' ⟨rfl, ⟨nd, rfl⟩⟩; refine ⟨_, rfl, ?_⟩) | ((with_reducible refine gate_callee (f := 10) rfl ?_); refine goesL_ (some 19) rfl rfl Try.func10 (by kernel_rfl) rfl #[.slice A0 l0.length c0, .int .i64 2] rfl (by (try simp only [List.map_toArray, List.map_cons, List.map_nil]); first | done | rfl | (simp only [List.length_drop, List.length_take]; rfl)) ?_; (with_reducible refine (laws_wByte.calls _ _ l0 2 t110 _ ?side1 ?side2 A5.out).mono ?_); (case side1 => repeat (first | exact HR0.out | (with_reducible refine Kd.C_alloc ?_ _) | (with_reducible refine Kd.C_drewN ?_ _) | (with_reducible refine Kd.C_drew ?_))); (case side2 => exact HC0.out); rintro e w' ⟨rfl, ⟨nd, rfl⟩⟩; refine ⟨_, rfl, ?_⟩))
        (try simp only [Act.put, List.setIfInBounds_toArray, List.set_cons_zero, List.set_cons_succ])
        go_cut [7] (fun v7 wc => ∃ (kq : Nat) (x7_8 : Int), v7 = .int .i64 x7_8 ∧ Aside0 (laws_FnSums.j0 kq l0 (wrap64 (10 + t108)) (Int.tmod t109 30) (Int.tmod t110 (wrap64 (10 + t108))) (wrap64 ((wrap64 ((Int.tmod t109 30) * (wrap64 (10 + t108)))) + (Int.tmod t110 (wrap64 (10 + t108))))) x7_8 = some r) ∧ Aside0 (kq ≤ k) ∧ Drawn0 w wc)
        case first =>
          have H := HC9.out
          clear HC9
          by_cases c10 : (Int.tmod t110 (wrap64 (10 + t108))) > 0
          · rw [if_pos c10] at H
            have c10b0 : decide (0 < (Int.tmod t110 (wrap64 (10 + t108)))) = true := decide_eq_true c10
            clear c10
            (first | rw [c10b0] | (simp only [i64_w, i32_w]; rw [c10b0]) | skip)
            have H' := Aside0.mk H
            clear H
            go_wp2
            go_meet
            case rel => exact ⟨_, (wrap64 ((Int.tmod t109 30) + 1)), (by first | rfl | (simp; done) | (simp [*]; done)), H', ⟨by first | omega | exact Nat.le_refl _⟩, by repeat (first | exact Drawn0.refl _ | apply Drawn0.step)⟩
          · rw [if_neg c10] at H
            have c10b0 : decide (0 < (Int.tmod t110 (wrap64 (10 + t108)))) = false := decide_eq_false c10
            clear c10
            (first | rw [c10b0] | (simp only [i64_w, i32_w]; rw [c10b0]) | skip)
            have H' := Aside0.mk H
            clear H
            go_wp2
            go_meet
            case rel => exact ⟨_, (Int.tmod t109 30), (by first | rfl | (simp; done) | (simp [*]; done)), H', ⟨by first | omega | exact Nat.le_refl _⟩, by repeat (first | exact Drawn0.refl _ | apply Drawn0.step)⟩
        case rest =>
          clear HC9
          try clear c1
          try clear c2
          try clear c2b0
          try clear c2b1
          try clear p2
          try clear c4
          try clear c6
          try clear c6b0
          try clear c6b1
          try clear p6
          try clear c7
          try clear c7b0
          try clear c10
          try clear c10b0
          obtain ⟨kq, x7_8, rfl, HA, HJ8, ⟨mc8, rfl⟩⟩ := hcut
          cases kq with
          | zero => exact absurd HA.out (by simp [laws_FnSums.j0])
          | succ kj8 =>
            have H := HA.out
            clear HA
            simp only [laws_FnSums.j0] at H
            have HC11 := Aside0.mk H
            clear H
            go_upto_region 12 with (fail)
            go_cut [59] (fun v59 wc => ∃ (kq : Nat) (x59_10 : Bool), v59 = .bool x59_10 ∧ Aside0 (laws_FnSums.j1 kq l0 (wrap64 (10 + t108)) (Int.tmod t109 30) (Int.tmod t110 (wrap64 (10 + t108))) (wrap64 ((wrap64 ((Int.tmod t109 30) * (wrap64 (10 + t108)))) + (Int.tmod t110 (wrap64 (10 + t108))))) x7_8 x59_10 = some r) ∧ Aside0 (kq ≤ kj8) ∧ Drawn0 w wc)
            case first =>
              have H := HC11.out
              clear HC11
              replace H := Option.bind_eq_some_iff.mp H
              obtain ⟨t112, A120, H⟩ := H
              replace H : (if t112 = (wrap64 ((wrap64 ((Int.tmod t109 30) * (Int.tmod t110 (wrap64 (10 + t108))))) + (wrap64 (Int.tdiv (wrap64 ((wrap64 ((wrap64 (10 + t108)) * (Int.tmod t109 30))) * (wrap64 ((Int.tmod t109 30) - 1)))) 2)))) then ((impl_SlowTicks.f kj8 (wrap64 ((wrap64 ((Int.tmod t109 30) * (wrap64 (10 + t108)))) + (Int.tmod t110 (wrap64 (10 + t108))))) 0 (wrap64 (10 + t108))).bind fun t113 => (laws_FnSums.j1 kj8 l0 (wrap64 (10 + t108)) (Int.tmod t109 30) (Int.tmod t110 (wrap64 (10 + t108))) (wrap64 ((wrap64 ((Int.tmod t109 30) * (wrap64 (10 + t108)))) + (Int.tmod t110 (wrap64 (10 + t108))))) x7_8 (t113 != x7_8))) else (laws_FnSums.j1 kj8 l0 (wrap64 (10 + t108)) (Int.tmod t109 30) (Int.tmod t110 (wrap64 (10 + t108))) (wrap64 ((wrap64 ((Int.tmod t109 30) * (wrap64 (10 + t108)))) + (Int.tmod t110 (wrap64 (10 + t108))))) x7_8 true)) = some r := H
              have A12 := Aside0.mk A120
              clear A120
              by_cases c13 : t112 = (wrap64 ((wrap64 ((Int.tmod t109 30) * (Int.tmod t110 (wrap64 (10 + t108))))) + (wrap64 (Int.tdiv (wrap64 ((wrap64 ((wrap64 (10 + t108)) * (Int.tmod t109 30))) * (wrap64 ((Int.tmod t109 30) - 1)))) 2))))
              · rw [if_pos c13] at H
                have c13b0 : (t112 == (wrap64 ((wrap64 ((Int.tmod t109 30) * (Int.tmod t110 (wrap64 (10 + t108))))) + (wrap64 (Int.tdiv (wrap64 ((wrap64 ((wrap64 (10 + t108)) * (Int.tmod t109 30))) * (wrap64 ((Int.tmod t109 30) - 1)))) 2))))) = true := beq_iff_eq.mpr c13
                have c13b1 : (t112 != (wrap64 ((wrap64 ((Int.tmod t109 30) * (Int.tmod t110 (wrap64 (10 + t108))))) + (wrap64 (Int.tdiv (wrap64 ((wrap64 ((wrap64 (10 + t108)) * (Int.tmod t109 30))) * (wrap64 ((Int.tmod t109 30) - 1)))) 2))))) = false := bne_eq_false_iff_eq.mpr c13
                clear c13
                (first | rw [c13b0] | (simp only [i64_w, i32_w]; rw [c13b0]) | skip)
                replace H := Option.bind_eq_some_iff.mp H
                obtain ⟨t113, A140, H⟩ := H
                replace H : (laws_FnSums.j1 kj8 l0 (wrap64 (10 + t108)) (Int.tmod t109 30) (Int.tmod t110 (wrap64 (10 + t108))) (wrap64 ((wrap64 ((Int.tmod t109 30) * (wrap64 (10 + t108)))) + (Int.tmod t110 (wrap64 (10 + t108))))) x7_8 (t113 != x7_8)) = some r := H
                have A14 := Aside0.mk A140
                clear A140
                have H' := Aside0.mk H
                clear H
                go_wp2_with (first | ((with_reducible refine gate_callee (f := 11) rfl ?_); refine goesL_ (some 40) rfl rfl Try.func11 (by kernel_rfl) rfl #[.int .i64 (wrap64 ((wrap64 ((Int.tmod t109 30) * (wrap64 (10 + t108)))) + (Int.tmod t110 (wrap64 (10 + t108))))), .int .i64 0, .int .i64 (wrap64 (10 + t108))] rfl (by (try simp only [List.map_toArray, List.map_cons, List.map_nil]); first | done | rfl | (simp only [List.length_drop, List.length_take]; rfl)) ?_; (with_reducible refine (impl_SlowLen.calls kj8 (wrap64 ((wrap64 ((Int.tmod t109 30) * (wrap64 (10 + t108)))) + (Int.tmod t110 (wrap64 (10 + t108))))) 0 (wrap64 (10 + t108)) t112 _ A12.out).mono ?_); rintro e w' ⟨rfl, ⟨nd, rfl⟩⟩; refine ⟨_, rfl, ?_⟩) | (go_at_call 12; (with_reducible refine (impl_SlowTicks.calls kj8 (wrap64 ((wrap64 ((Int.tmod t109 30) * (wrap64 (10 + t108)))) + (Int.tmod t110 (wrap64 (10 + t108))))) 0 (wrap64 (10 + t108)) t113 _ A14.out).mono ?_); rintro e w' ⟨rfl, ⟨nd, rfl⟩⟩))
                go_meet
                case rel => exact ⟨_, ((t113 != x7_8)), (by first | rfl | (simp; done) | (simp [*]; done)), H', ⟨by have := HJ8.out; first | omega | exact Nat.le_refl _⟩, by repeat (first | exact Drawn0.refl _ | apply Drawn0.step)⟩
              · rw [if_neg c13] at H
                have c13b0 : (t112 == (wrap64 ((wrap64 ((Int.tmod t109 30) * (Int.tmod t110 (wrap64 (10 + t108))))) + (wrap64 (Int.tdiv (wrap64 ((wrap64 ((wrap64 (10 + t108)) * (Int.tmod t109 30))) * (wrap64 ((Int.tmod t109 30) - 1)))) 2))))) = false := beq_eq_false_iff_ne.mpr c13
                have c13b1 : (t112 != (wrap64 ((wrap64 ((Int.tmod t109 30) * (Int.tmod t110 (wrap64 (10 + t108))))) + (wrap64 (Int.tdiv (wrap64 ((wrap64 ((wrap64 (10 + t108)) * (Int.tmod t109 30))) * (wrap64 ((Int.tmod t109 30) - 1)))) 2))))) = true := bne_iff_ne.mpr c13
                (first | rw [c13b0] | (simp only [i64_w, i32_w]; rw [c13b0]) | skip)
                have H' := Aside0.mk H
                clear H
                go_wp2_with (first | ((with_reducible refine gate_callee (f := 11) rfl ?_); refine goesL_ (some 40) rfl rfl Try.func11 (by kernel_rfl) rfl #[.int .i64 (wrap64 ((wrap64 ((Int.tmod t109 30) * (wrap64 (10 + t108)))) + (Int.tmod t110 (wrap64 (10 + t108))))), .int .i64 0, .int .i64 (wrap64 (10 + t108))] rfl (by (try simp only [List.map_toArray, List.map_cons, List.map_nil]); first | done | rfl | (simp only [List.length_drop, List.length_take]; rfl)) ?_; (with_reducible refine (impl_SlowLen.calls kj8 (wrap64 ((wrap64 ((Int.tmod t109 30) * (wrap64 (10 + t108)))) + (Int.tmod t110 (wrap64 (10 + t108))))) 0 (wrap64 (10 + t108)) t112 _ A12.out).mono ?_); rintro e w' ⟨rfl, ⟨nd, rfl⟩⟩; refine ⟨_, rfl, ?_⟩))
                go_meet
                case rel => exact ⟨_, (true), (by first | rfl | (simp; done) | (simp [*]; done)), H', ⟨by have := HJ8.out; first | omega | exact Nat.le_refl _⟩, by repeat (first | exact Drawn0.refl _ | apply Drawn0.step)⟩
            case rest =>
              clear HC11
              try clear c1
              try clear c2
              try clear c2b0
              try clear c2b1
              try clear p2
              try clear c4
              try clear c6
              try clear c6b0
              try clear c6b1
              try clear p6
              try clear c7
              try clear c7b0
              try clear c8
              try clear c10
              try clear c10b0
              try clear c11
              try clear c13
              try clear c13b0
              try clear c13b1
              try clear p2
              try clear p6
              obtain ⟨kq, x59_10, rfl, HA, HJ10, ⟨mc10, rfl⟩⟩ := hcut
              cases kq with
              | zero => exact absurd HA.out (by simp [laws_FnSums.j1])
              | succ kj10 =>
                have H := HA.out
                clear HA
                simp only [laws_FnSums.j1] at H
                by_cases c15 : x59_10 = true
                · subst c15
                  have H1 : (some false) = some r := by rw [if_pos rfl] at H; exact H
                  clear H
                  have H := H1
                  clear H1
                  obtain rfl := Option.some.inj H
                  go_wp2
                  go_ret
                  exact ⟨by first | rfl | (simp; done) | (simp [*]; done), by repeat (first | exact Drawn0.refl _ | apply Drawn0.step)⟩
                · replace c15 := Bool.eq_false_iff.mpr c15
                  subst c15
                  have H1 : (if (Int.tmod t109 30) > 0 then ((laws_wByte.f l0 3).bind fun t114 => (if (wrap64 ((Int.tmod t109 30) + 1)) = 0 then (none) else (laws_FnSums.j2 kj10 (wrap64 (10 + t108)) (wrap64 ((wrap64 ((Int.tmod t109 30) * (wrap64 (10 + t108)))) + (Int.tmod t110 (wrap64 (10 + t108))))) x7_8 (wrap64 ((wrap64 ((wrap64 ((Int.tmod t109 30) * (wrap64 (10 + t108)))) + (Int.tmod t110 (wrap64 (10 + t108))))) - (wrap64 ((wrap64 (10 + t108)) * (Int.tmod t114 (wrap64 ((Int.tmod t109 30) + 1)))))))))) else (laws_FnSums.j2 kj10 (wrap64 (10 + t108)) (wrap64 ((wrap64 ((Int.tmod t109 30) * (wrap64 (10 + t108)))) + (Int.tmod t110 (wrap64 (10 + t108))))) x7_8 (Int.tmod t110 (wrap64 (10 + t108))))) = some r := by rw [if_neg (show ¬ (false = true) by decide)] at H; exact H
                  clear H
                  have H := H1
                  clear H1
                  have HC16 := Aside0.mk H
                  clear H
                  go_upto_if 62 with (fail)
                  go_cut [8] (fun v8 wc => ∃ (kq : Nat) (x8_15 : Int), v8 = .int .i64 x8_15 ∧ Aside0 (laws_FnSums.j2 kq (wrap64 (10 + t108)) (wrap64 ((wrap64 ((Int.tmod t109 30) * (wrap64 (10 + t108)))) + (Int.tmod t110 (wrap64 (10 + t108))))) x7_8 x8_15 = some r) ∧ Aside0 (kq ≤ kj10) ∧ Drawn0 w wc)
                  case first =>
                    have H := HC16.out
                    clear HC16
                    by_cases c17 : (Int.tmod t109 30) > 0
                    · rw [if_pos c17] at H
                      have c17b0 : decide (0 < (Int.tmod t109 30)) = true := decide_eq_true c17
                      clear c17
                      (first | rw [c17b0] | (simp only [i64_w, i32_w]; rw [c17b0]) | skip)
                      replace H := Option.bind_eq_some_iff.mp H
                      obtain ⟨t114, A180, H⟩ := H
                      replace H : (if (wrap64 ((Int.tmod t109 30) + 1)) = 0 then (none) else (laws_FnSums.j2 kj10 (wrap64 (10 + t108)) (wrap64 ((wrap64 ((Int.tmod t109 30) * (wrap64 (10 + t108)))) + (Int.tmod t110 (wrap64 (10 + t108))))) x7_8 (wrap64 ((wrap64 ((wrap64 ((Int.tmod t109 30) * (wrap64 (10 + t108)))) + (Int.tmod t110 (wrap64 (10 + t108))))) - (wrap64 ((wrap64 (10 + t108)) * (Int.tmod t114 (wrap64 ((Int.tmod t109 30) + 1))))))))) = some r := H
                      have A18 := Aside0.mk A180
                      clear A180
                      by_cases c19 : (wrap64 ((Int.tmod t109 30) + 1)) = 0
                      · rw [if_pos c19] at H
                        exact absurd H (by simp)
                      · rw [if_neg c19] at H
                        have c19b0 : ((wrap64 ((Int.tmod t109 30) + 1)) == 0) = false := beq_eq_false_iff_ne.mpr c19
                        have c19b1 : ((wrap64 ((Int.tmod t109 30) + 1)) != 0) = true := bne_iff_ne.mpr c19
                        have H' := Aside0.mk H
                        clear H
                        go_wp2_with (first | ((with_reducible refine gate_callee (f := 10) rfl ?_); refine goesL_ (some 66) rfl rfl Try.func10 (by kernel_rfl) rfl #[.slice A0 l0.length c0, .int .i64 3] rfl (by (try simp only [List.map_toArray, List.map_cons, List.map_nil]); first | done | rfl | (simp only [List.length_drop, List.length_take]; rfl)) ?_; (with_reducible refine (laws_wByte.calls _ _ l0 3 t114 _ ?side1 ?side2 A18.out).mono ?_); (case side1 => repeat (first | exact HR0.out | (with_reducible refine Kd.C_alloc ?_ _) | (with_reducible refine Kd.C_drewN ?_ _) | (with_reducible refine Kd.C_drew ?_))); (case side2 => exact HC0.out); rintro e w' ⟨rfl, ⟨nd, rfl⟩⟩; refine ⟨_, rfl, ?_⟩))
                        go_meet
                        case rel => exact ⟨_, (wrap64 ((wrap64 ((wrap64 ((Int.tmod t109 30) * (wrap64 (10 + t108)))) + (Int.tmod t110 (wrap64 (10 + t108))))) - (wrap64 ((wrap64 (10 + t108)) * (Int.tmod t114 (wrap64 ((Int.tmod t109 30) + 1))))))), (by first | rfl | (simp; done) | (simp [*]; done)), H', ⟨by have := HJ8.out; have := HJ10.out; first | omega | exact Nat.le_refl _⟩, by repeat (first | exact Drawn0.refl _ | apply Drawn0.step)⟩
                    · rw [if_neg c17] at H
                      have c17b0 : decide (0 < (Int.tmod t109 30)) = false := decide_eq_false c17
                      clear c17
                      (first | rw [c17b0] | (simp only [i64_w, i32_w]; rw [c17b0]) | skip)
                      have H' := Aside0.mk H
                      clear H
                      go_wp2
                      go_meet
                      case rel => exact ⟨_, ((Int.tmod t110 (wrap64 (10 + t108)))), (by first | rfl | (simp; done) | (simp [*]; done)), H', ⟨by have := HJ8.out; have := HJ10.out; first | omega | exact Nat.le_refl _⟩, by repeat (first | exact Drawn0.refl _ | apply Drawn0.step)⟩
                  case rest =>
                    clear HC16
                    try clear c1
                    try clear c2
                    try clear c2b0
                    try clear c2b1
                    try clear p2
                    try clear c4
                    try clear c6
                    try clear c6b0
                    try clear c6b1
                    try clear p6
                    try clear c7
                    try clear c7b0
                    try clear c8
                    try clear c10
                    try clear c10b0
                    try clear c11
                    try clear c13
                    try clear c13b0
                    try clear c13b1
                    try clear c15
                    try clear c17
                    try clear c17b0
                    try clear c19
                    try clear c19b0
                    try clear c19b1
                    try clear p2
                    try clear p6
                    obtain ⟨kq, x8_15, rfl, HA, HJ15, ⟨mc15, rfl⟩⟩ := hcut
                    cases kq with
                    | zero => exact absurd HA.out (by simp [laws_FnSums.j2])
                    | succ kj15 =>
                      have H := HA.out
                      clear HA
                      simp only [laws_FnSums.j2] at H
                      replace H := Option.bind_eq_some_iff.mp H
                      obtain ⟨t115, A200, H⟩ := H
                      replace H : ((impl_SlowLen.f kj15 x8_15 0 (wrap64 (10 + t108))).bind fun t116 => ((impl_SlowLen.f kj15 (wrap64 ((wrap64 ((Int.tmod t109 30) * (wrap64 (10 + t108)))) + (Int.tmod t110 (wrap64 (10 + t108))))) 0 (wrap64 (10 + t108))).bind fun t117 => (if (wrap64 (t115 + t116)) = t117 then ((impl_SlowTicks.f kj15 (wrap64 ((wrap64 ((Int.tmod t109 30) * (wrap64 (10 + t108)))) + (Int.tmod t110 (wrap64 (10 + t108))))) x8_15 (wrap64 (10 + t108))).bind fun t118 => ((impl_SlowTicks.f kj15 x8_15 0 (wrap64 (10 + t108))).bind fun t119 => (some ((wrap64 (t118 + t119)) == x7_8)))) else (some false)))) = some r := H
                      have A20 := Aside0.mk A200
                      clear A200
                      replace H := Option.bind_eq_some_iff.mp H
                      obtain ⟨t116, A210, H⟩ := H
                      replace H : ((impl_SlowLen.f kj15 (wrap64 ((wrap64 ((Int.tmod t109 30) * (wrap64 (10 + t108)))) + (Int.tmod t110 (wrap64 (10 + t108))))) 0 (wrap64 (10 + t108))).bind fun t117 => (if (wrap64 (t115 + t116)) = t117 then ((impl_SlowTicks.f kj15 (wrap64 ((wrap64 ((Int.tmod t109 30) * (wrap64 (10 + t108)))) + (Int.tmod t110 (wrap64 (10 + t108))))) x8_15 (wrap64 (10 + t108))).bind fun t118 => ((impl_SlowTicks.f kj15 x8_15 0 (wrap64 (10 + t108))).bind fun t119 => (some ((wrap64 (t118 + t119)) == x7_8)))) else (some false))) = some r := H
                      have A21 := Aside0.mk A210
                      clear A210
                      replace H := Option.bind_eq_some_iff.mp H
                      obtain ⟨t117, A220, H⟩ := H
                      replace H : (if (wrap64 (t115 + t116)) = t117 then ((impl_SlowTicks.f kj15 (wrap64 ((wrap64 ((Int.tmod t109 30) * (wrap64 (10 + t108)))) + (Int.tmod t110 (wrap64 (10 + t108))))) x8_15 (wrap64 (10 + t108))).bind fun t118 => ((impl_SlowTicks.f kj15 x8_15 0 (wrap64 (10 + t108))).bind fun t119 => (some ((wrap64 (t118 + t119)) == x7_8)))) else (some false)) = some r := H
                      have A22 := Aside0.mk A220
                      clear A220
                      by_cases c23 : (wrap64 (t115 + t116)) = t117
                      · rw [if_pos c23] at H
                        have c23b0 : ((wrap64 (t115 + t116)) == t117) = true := beq_iff_eq.mpr c23
                        have c23b1 : ((wrap64 (t115 + t116)) != t117) = false := bne_eq_false_iff_eq.mpr c23
                        clear c23
                        replace H := Option.bind_eq_some_iff.mp H
                        obtain ⟨t118, A240, H⟩ := H
                        replace H : ((impl_SlowTicks.f kj15 x8_15 0 (wrap64 (10 + t108))).bind fun t119 => (some ((wrap64 (t118 + t119)) == x7_8))) = some r := H
                        have A24 := Aside0.mk A240
                        clear A240
                        replace H := Option.bind_eq_some_iff.mp H
                        obtain ⟨t119, A250, H⟩ := H
                        replace H : (some ((wrap64 (t118 + t119)) == x7_8)) = some r := H
                        have A25 := Aside0.mk A250
                        clear A250
                        obtain rfl := Option.some.inj H
                        go_wp2_with (first | ((with_reducible refine gate_callee (f := 11) rfl ?_); refine goesL_ (some 75) rfl rfl Try.func11 (by kernel_rfl) rfl #[.int .i64 (wrap64 ((wrap64 ((Int.tmod t109 30) * (wrap64 (10 + t108)))) + (Int.tmod t110 (wrap64 (10 + t108))))), .int .i64 x8_15, .int .i64 (wrap64 (10 + t108))] rfl (by (try simp only [List.map_toArray, List.map_cons, List.map_nil]); first | done | rfl | (simp only [List.length_drop, List.length_take]; rfl)) ?_; (with_reducible refine (impl_SlowLen.calls kj15 (wrap64 ((wrap64 ((Int.tmod t109 30) * (wrap64 (10 + t108)))) + (Int.tmod t110 (wrap64 (10 + t108))))) x8_15 (wrap64 (10 + t108)) t115 _ A20.out).mono ?_); rintro e w' ⟨rfl, ⟨nd, rfl⟩⟩; refine ⟨_, rfl, ?_⟩) | ((with_reducible refine gate_callee (f := 11) rfl ?_); refine goesL_ (some 78) rfl rfl Try.func11 (by kernel_rfl) rfl #[.int .i64 x8_15, .int .i64 0, .int .i64 (wrap64 (10 + t108))] rfl (by (try simp only [List.map_toArray, List.map_cons, List.map_nil]); first | done | rfl | (simp only [List.length_drop, List.length_take]; rfl)) ?_; (with_reducible refine (impl_SlowLen.calls kj15 x8_15 0 (wrap64 (10 + t108)) t116 _ A21.out).mono ?_); rintro e w' ⟨rfl, ⟨nd, rfl⟩⟩; refine ⟨_, rfl, ?_⟩) | ((with_reducible refine gate_callee (f := 11) rfl ?_); refine goesL_ (some 82) rfl rfl Try.func11 (by kernel_rfl) rfl #[.int .i64 (wrap64 ((wrap64 ((Int.tmod t109 30) * (wrap64 (10 + t108)))) + (Int.tmod t110 (wrap64 (10 + t108))))), .int .i64 0, .int .i64 (wrap64 (10 + t108))] rfl (by (try simp only [List.map_toArray, List.map_cons, List.map_nil]); first | done | rfl | (simp only [List.length_drop, List.length_take]; rfl)) ?_; (with_reducible refine (impl_SlowLen.calls kj15 (wrap64 ((wrap64 ((Int.tmod t109 30) * (wrap64 (10 + t108)))) + (Int.tmod t110 (wrap64 (10 + t108))))) 0 (wrap64 (10 + t108)) t117 _ A22.out).mono ?_); rintro e w' ⟨rfl, ⟨nd, rfl⟩⟩; refine ⟨_, rfl, ?_⟩) | (go_at_call 12; (with_reducible refine (impl_SlowTicks.calls kj15 (wrap64 ((wrap64 ((Int.tmod t109 30) * (wrap64 (10 + t108)))) + (Int.tmod t110 (wrap64 (10 + t108))))) x8_15 (wrap64 (10 + t108)) t118 _ A24.out).mono ?_); rintro e w' ⟨rfl, ⟨nd, rfl⟩⟩) | (go_at_call 12; (with_reducible refine (impl_SlowTicks.calls kj15 x8_15 0 (wrap64 (10 + t108)) t119 _ A25.out).mono ?_); rintro e w' ⟨rfl, ⟨nd, rfl⟩⟩))
                        go_ret
                        exact ⟨by first | rfl | (simp; done) | (simp [*]; done), by repeat (first | exact Drawn0.refl _ | apply Drawn0.step)⟩
                      · rw [if_neg c23] at H
                        have c23b0 : ((wrap64 (t115 + t116)) == t117) = false := beq_eq_false_iff_ne.mpr c23
                        have c23b1 : ((wrap64 (t115 + t116)) != t117) = true := bne_iff_ne.mpr c23
                        obtain rfl := Option.some.inj H
                        go_wp2_with (first | ((with_reducible refine gate_callee (f := 11) rfl ?_); refine goesL_ (some 75) rfl rfl Try.func11 (by kernel_rfl) rfl #[.int .i64 (wrap64 ((wrap64 ((Int.tmod t109 30) * (wrap64 (10 + t108)))) + (Int.tmod t110 (wrap64 (10 + t108))))), .int .i64 x8_15, .int .i64 (wrap64 (10 + t108))] rfl (by (try simp only [List.map_toArray, List.map_cons, List.map_nil]); first | done | rfl | (simp only [List.length_drop, List.length_take]; rfl)) ?_; (with_reducible refine (impl_SlowLen.calls kj15 (wrap64 ((wrap64 ((Int.tmod t109 30) * (wrap64 (10 + t108)))) + (Int.tmod t110 (wrap64 (10 + t108))))) x8_15 (wrap64 (10 + t108)) t115 _ A20.out).mono ?_); rintro e w' ⟨rfl, ⟨nd, rfl⟩⟩; refine ⟨_, rfl, ?_⟩) | ((with_reducible refine gate_callee (f := 11) rfl ?_); refine goesL_ (some 78) rfl rfl Try.func11 (by kernel_rfl) rfl #[.int .i64 x8_15, .int .i64 0, .int .i64 (wrap64 (10 + t108))] rfl (by (try simp only [List.map_toArray, List.map_cons, List.map_nil]); first | done | rfl | (simp only [List.length_drop, List.length_take]; rfl)) ?_; (with_reducible refine (impl_SlowLen.calls kj15 x8_15 0 (wrap64 (10 + t108)) t116 _ A21.out).mono ?_); rintro e w' ⟨rfl, ⟨nd, rfl⟩⟩; refine ⟨_, rfl, ?_⟩) | ((with_reducible refine gate_callee (f := 11) rfl ?_); refine goesL_ (some 82) rfl rfl Try.func11 (by kernel_rfl) rfl #[.int .i64 (wrap64 ((wrap64 ((Int.tmod t109 30) * (wrap64 (10 + t108)))) + (Int.tmod t110 (wrap64 (10 + t108))))), .int .i64 0, .int .i64 (wrap64 (10 + t108))] rfl (by (try simp only [List.map_toArray, List.map_cons, List.map_nil]); first | done | rfl | (simp only [List.length_drop, List.length_take]; rfl)) ?_; (with_reducible refine (impl_SlowLen.calls kj15 (wrap64 ((wrap64 ((Int.tmod t109 30) * (wrap64 (10 + t108)))) + (Int.tmod t110 (wrap64 (10 + t108))))) 0 (wrap64 (10 + t108)) t117 _ A22.out).mono ?_); rintro e w' ⟨rfl, ⟨nd, rfl⟩⟩; refine ⟨_, rfl, ?_⟩))
                        go_ret
                        exact ⟨by first | rfl | (simp; done) | (simp [*]; done), by repeat (first | exact Drawn0.refl _ | apply Drawn0.step)⟩

/-- THE ONE PURE STATEMENT of laws_FnSums: yours. -/
def laws_FnSums.Pure : Prop := ∀ (l0 : List Int), l0.length ≤ maxLen → l0.length * 1 ≤ 140737488351232 → (∀ x ∈ l0, (Lit.int .u8 x).wf = true) → ∃ k, laws_FnSums.f k l0 = some true
theorem laws_FnSums.walk (P : laws_FnSums.Pure) (a0 : Option Addr) (len0 cap0 : Nat) (z0 : List Int) (w : World) (w0 : (a0 = none ∧ len0 = 0 ∧ cap0 = 0 ∧ z0 = []) ∨ ∃ x, a0 = some x ∧ len0 ≤ cap0 ∧ cap0 ≤ maxLen ∧ z0.length = cap0 ∧ (∀ i, i < z0.length → w.cell? (x.add i) = some (.int .u8 (z0.getD i 0))) ∧ ∀ n ∈ z0, (Lit.int .u8 n).wf = true) (y0 : len0 * 1 ≤ 140737488351232) :
    Calls Try.prog 4 #[.slice a0 len0 cap0] w fun e w' => e = .returned (.bool true) ∧ Below w.heap.size w w' := by
  obtain ⟨l0, rfl, hr0, hm0, hw0, hc0⟩ := ReadsInt.ofRowC w0
  obtain ⟨k, h⟩ := P l0 hm0 y0 hw0
  refine (laws_FnSums.calls k _ _ l0 true w (Kd.C_of_reads (d := (0 : Int)) (h1 := fun _ => rfl) hr0) hc0 h).mono ?_
  rintro e w' ⟨rfl, hd⟩
  exact ⟨rfl, hd.below⟩

end Go.Proofs.Ytlpcaimkkoahiaa.PFnSums
