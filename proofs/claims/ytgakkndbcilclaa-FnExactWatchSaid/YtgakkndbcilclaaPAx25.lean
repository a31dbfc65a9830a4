-- Written by a program of this session (wip/print/myprint.py) over the kit's print, with contracts of its own; not a text of print.sh's.
import Derived.Test.YtgakkndbcilclaaPAx0
import Derived.Test.YtgakkndbcilclaaPAx1
namespace Go.Proofs.Ytgakkndbcilclaa.PA
open Go.RowKit Go.Proofs.YtgakkndbcilclaaW.PrintWords Go.Proofs.YtgakkndbcilclaaW.PrintLast Go.Proofs.YtgakkndbcilclaaW.PrintMore
attribute [local go_sem] max2_int min2_int max_two min_two   -- for this text's walks alone
set_option linter.unusedVariables false
set_option linter.unusedSimpArgs false

/-! ### spec_l1speeds: function 72 -/
def spec_l1speeds.f (a0 : Int) (a1 : Int) : Option (Bool):=(spec_l1in.f a0 0 10000).bind fun t303 => (if t303 = true then ((spec_l1in.f a1 0 10000).bind fun t304 => (some t304)) else (some false))
set_option maxHeartbeats 8000000 in
set_option maxRecDepth 100000 in
theorem spec_l1speeds.calls (a0 : Int) (a1 : Int) (r : Bool) (w : World) (h : spec_l1speeds.f a0 a1 = some r) :
  Calls Try.prog 72 #[.int .i64 a0,.int .i64 a1] w fun e w' => e = .returned (.bool r)∧Drawn0 w w':=by
 have H : ((spec_l1in.f a0 0 10000).bind fun t303 => (if t303 = true then ((spec_l1in.f a1 0 10000).bind fun t304 => (some t304)) else (some false))) = some r:=h
 clear h
 replace H:=Option.bind_eq_some_iff.mp H
 obtain ⟨t303,A30,H⟩:=H
 replace H : (if t303 = true then ((spec_l1in.f a1 0 10000).bind fun t304 => (some t304)) else (some false)) = some r:=H
 have A3:=Am A30
 clear A30
 by_cases c4 : t303 = true
 ·subst c4
  have H1 : ((spec_l1in.f a1 0 10000).bind fun t304 => (some t304)) = some r:=by rw [if_pos rfl] at H;exact H
  clear H
  have H:=H1
  clear H1
  replace H:=Option.bind_eq_some_iff.mp H
  obtain ⟨t304,A50,H⟩:=H
  replace H : (some t304) = some r:=H
  have A5:=Am A50
  clear A50
  obtain rfl:=Option.some.inj H
  go_enter Try.func72,Try.ntmps72
  go_wp2_with (first|((with_reducible refine gate_callee (f:=57) rfl ?_);refine goesL_ (some 6) rfl rfl Try.func57 (by kernel_rfl) rfl #[.int .i64 a0,.int .i64 0,.int .i64 10000] rfl (by (try simp only [List.map_toArray,List.map_cons,List.map_nil]);first|done|rfl|(simp only [List.length_drop,List.length_take];rfl)) ?_;(with_reducible refine (spec_l1in.calls a0 0 10000 true _ A3.out).mono ?_);rintro e w' ⟨rfl,⟨nd,rfl⟩⟩;refine ⟨_,rfl,?_⟩)|(go_at_call 57;(with_reducible refine (spec_l1in.calls a1 0 10000 t304 _ A5.out).mono ?_);rintro e w' ⟨rfl,⟨nd,rfl⟩⟩))
  go_ret
  exact ⟨by first|rfl|(simp;done)|(simp [*];done),by repeat (first|exact Drawn0.refl _|apply Drawn0.step)⟩
 ·replace c4:=Bool.eq_false_iff.mpr c4
  subst c4
  have H1 : (some false) = some r:=by rw [if_neg (show ¬ (false = true) by decide)] at H;exact H
  clear H
  have H:=H1
  clear H1
  obtain rfl:=Option.some.inj H
  go_enter Try.func72,Try.ntmps72
  go_wp2_with (first|((with_reducible refine gate_callee (f:=57) rfl ?_);refine goesL_ (some 6) rfl rfl Try.func57 (by kernel_rfl) rfl #[.int .i64 a0,.int .i64 0,.int .i64 10000] rfl (by (try simp only [List.map_toArray,List.map_cons,List.map_nil]);first|done|rfl|(simp only [List.length_drop,List.length_take];rfl)) ?_;(with_reducible refine (spec_l1in.calls a0 0 10000 false _ A3.out).mono ?_);rintro e w' ⟨rfl,⟨nd,rfl⟩⟩;refine ⟨_,rfl,?_⟩))
  go_ret
  exact ⟨by first|rfl|(simp;done)|(simp [*];done),by repeat (first|exact Drawn0.refl _|apply Drawn0.step)⟩

/-! ### spec_l2less: function 73 -/
def spec_l2less.f (a0 : Int) (a1 : Int) : Option (Int):=if a0 < a1 then (some 0) else (some (wrap64 (a0 - a1)))
set_option maxHeartbeats 8000000 in
set_option maxRecDepth 100000 in
theorem spec_l2less.calls (a0 : Int) (a1 : Int) (r : Int) (w : World) (h : spec_l2less.f a0 a1 = some r) :
  Calls Try.prog 73 #[.int .i64 a0,.int .i64 a1] w fun e w' => e = .returned (.int .i64 r)∧Drawn0 w w':=by
 have H : (if a0 < a1 then (some 0) else (some (wrap64 (a0 - a1)))) = some r:=h
 clear h
 by_cases c3 : a0 < a1
 ·rw [if_pos c3] at H
  have c3b0 : decide (a0 < a1) = true:=decide_eq_true c3
  clear c3
  obtain rfl:=Option.some.inj H
  go_enter Try.func73,Try.ntmps73
  go_wp2
  go_ret
  exact ⟨by first|rfl|(simp;done)|(simp [*];done),by repeat (first|exact Drawn0.refl _|apply Drawn0.step)⟩
 ·rw [if_neg c3] at H
  have c3b0 : decide (a0 < a1) = false:=decide_eq_false c3
  clear c3
  obtain rfl:=Option.some.inj H
  go_enter Try.func73,Try.ntmps73
  go_wp2
  go_ret
  exact ⟨by first|rfl|(simp;done)|(simp [*];done),by repeat (first|exact Drawn0.refl _|apply Drawn0.step)⟩

end Go.Proofs.Ytgakkndbcilclaa.PA
