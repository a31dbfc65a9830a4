-- Written by a program of this session (wip/print/myprint.py) over the kit's print, with contracts of its own; not a text of print.sh's.
import Derived.Test.YtanjbdgmnecacaaPEx0
import Derived.Test.YtanjbdgmnecacaaPEx10
import Derived.Test.YtanjbdgmnecacaaPEx11
import Derived.Test.YtanjbdgmnecacaaPEx15
import Derived.Test.YtanjbdgmnecacaaPEx16
namespace Go.Proofs.Ytanjbdgmnecacaa.PE
open Go.RowKit Go.Proofs.YtanjbdgmnecacaaW.PrintWords Go.Proofs.YtanjbdgmnecacaaW.PrintLast Go.Proofs.YtanjbdgmnecacaaW.PrintMore
attribute [local go_sem] max2_int min2_int max_two min_two   -- for this text's walks alone
set_option linter.unusedVariables false
set_option linter.unusedSimpArgs false

/-! ### laws_FnEven: function 4 -/
mutual
def laws_FnEven.j0 : Nat → Int → Int → Bool → List (S39) → Int → Int → Int → Bool → Int → List Int → Option (Bool)
 | 0,_,_,_,_,_,_,_,_,_,_ => none
 | k + 1,x3,x4,x63,x183000,x183002,x183003,x183004,x189000,x189001,x189002 => if x63 = true then (some false) else (laws_FnEven.l0 k x3 x4 0 x189002 (x189002.length : Int) 0 x183000 x183002 x183003 x183004 x189000 x189001 x189002)
def laws_FnEven.l0 : Nat → Int → Int → Int → List Int → Int → Int → List (S39) → Int → Int → Int → Bool → Int → List Int → Option (Bool)
 | 0,_,_,_,_,_,_,_,_,_,_,_,_,_ => none
 | k + 1,x3,x4,x9,x65,x66,x67,x183000,x183002,x183003,x183004,x189000,x189001,x189002 => if x67 < x66 then (if 0 ≤ x67 then (if x67 < (x65.length : Int) then (laws_FnEven.l0 k x3 x4 (wrap64 (x9 + (rd x65 x67))) x65 x66 (wrap64 (x67 + 1)) x183000 x183002 x183003 x183004 x189000 x189001 x189002) else (none)) else (none)) else (if x9 = x3 then ((spec_Fastest.f k x183000 ([] : List (S45)) x183002 x183003 x183004 x4 0 0).bind fun bt197 => (some (x189001 == bt197.2.1))) else (some false))
end
def laws_FnEven.f (k : Nat) (l0 : List Int) : Option (Bool):=if (l0.length : Int) > 1048576 then (some true) else ((laws_wByte.f l0 0).bind fun t176 => ((laws_wByte.f l0 1).bind fun t177 => ((laws_wByte.f l0 2).bind fun t178 => ((some (([(⟨wrap64 (1 + (Int.tmod (wrap64 (t176 * 2)) 400)),wrap64 (10 + (Int.tmod t178 20))⟩ : S39)] : List (S39)) : List (S39))).bind fun y179 => ((impl_Fastest.f k y179 ([] : List (S45)) 0 (wrap64 (1 + (Int.tmod (wrap64 (t176 * 2)) 400))) 0 (wrap64 (1 + (Int.tmod t177 9))) 0 0).bind fun bt183 => ((impl_Fastest.f k y179 ([] : List (S45)) 0 (wrap64 (1 + (Int.tmod (wrap64 (t176 * 2)) 400))) 0 (wrap64 (2 * (wrap64 (1 + (Int.tmod t177 9))))) 0 0).bind fun bt189 => (if bt183.1 = true then (if bt189.1 = true then (if bt189.2.1 > bt183.2.1 then (laws_FnEven.j0 k (wrap64 (1 + (Int.tmod (wrap64 (t176 * 2)) 400))) (wrap64 (1 + (Int.tmod t177 9))) true y179 0 (wrap64 (1 + (Int.tmod (wrap64 (t176 * 2)) 400))) 0 bt183.1 bt183.2.1 bt183.2.2) else ((spec_RunOk.f k y179 ([] : List (S45)) 0 (wrap64 (1 + (Int.tmod (wrap64 (t176 * 2)) 400))) 0 (wrap64 (1 + (Int.tmod t177 9))) 0 0 bt183.2.2).bind fun t195 => (laws_FnEven.j0 k (wrap64 (1 + (Int.tmod (wrap64 (t176 * 2)) 400))) (wrap64 (1 + (Int.tmod t177 9))) (!t195) y179 0 (wrap64 (1 + (Int.tmod (wrap64 (t176 * 2)) 400))) 0 bt183.1 bt183.2.1 bt183.2.2))) else (laws_FnEven.j0 k (wrap64 (1 + (Int.tmod (wrap64 (t176 * 2)) 400))) (wrap64 (1 + (Int.tmod t177 9))) true y179 0 (wrap64 (1 + (Int.tmod (wrap64 (t176 * 2)) 400))) 0 bt183.1 bt183.2.1 bt183.2.2)) else (laws_FnEven.j0 k (wrap64 (1 + (Int.tmod (wrap64 (t176 * 2)) 400))) (wrap64 (1 + (Int.tmod t177 9))) true y179 0 (wrap64 (1 + (Int.tmod (wrap64 (t176 * 2)) 400))) 0 bt183.1 bt183.2.1 bt183.2.2))))))))
theorem laws_FnEven.mono_l : ∀ k,(∀ y0 y1 y2 y3 y4 y5 y6 y7 y8 y9,LeO (laws_FnEven.j0 k y0 y1 y2 y3 y4 y5 y6 y7 y8 y9) (laws_FnEven.j0 (k + 1) y0 y1 y2 y3 y4 y5 y6 y7 y8 y9))∧(∀ y0 y1 y2 y3 y4 y5 y6 y7 y8 y9 y10 y11 y12,LeO (laws_FnEven.l0 k y0 y1 y2 y3 y4 y5 y6 y7 y8 y9 y10 y11 y12) (laws_FnEven.l0 (k + 1) y0 y1 y2 y3 y4 y5 y6 y7 y8 y9 y10 y11 y12))
 | 0 => ⟨fun _ _ _ _ _ _ _ _ _ _ r h => by simp [laws_FnEven.j0] at h,fun _ _ _ _ _ _ _ _ _ _ _ _ _ r h => by simp [laws_FnEven.l0] at h⟩
 | k + 1 => by
  obtain ⟨ih0,ih1⟩:=laws_FnEven.mono_l k
  refine ⟨?_,?_⟩
  ·intro y0 y1 y2 y3 y4 y5 y6 y7 y8 y9
   unfold laws_FnEven.j0
   repeat' first
   | (with_reducible exact ih0 _ _ _ _ _ _ _ _ _ _)
   | (with_reducible exact ih1 _ _ _ _ _ _ _ _ _ _ _ _ _)
   | (with_reducible exact impl_Fastest.mono _ _ _ _ _ _ _ _ _)
   | (with_reducible exact spec_Fastest.mono _ _ _ _ _ _ _ _ _)
   | (with_reducible exact spec_RunOk.mono _ _ _ _ _ _ _ _ _ _)
   | (with_reducible exact LeO.refl _)
   | (with_reducible exact LeO.none _)
   | (with_reducible refine LeO.ite ?_ ?_)
   | (with_reducible refine LeO.bind ?_ (fun _ => ?_))
   | exact ih0 _ _ _ _ _ _ _ _ _ _
   | exact ih1 _ _ _ _ _ _ _ _ _ _ _ _ _
   | exact impl_Fastest.mono _ _ _ _ _ _ _ _ _
   | exact spec_Fastest.mono _ _ _ _ _ _ _ _ _
   | exact spec_RunOk.mono _ _ _ _ _ _ _ _ _ _
   | exact LeO.none _
   | refine LeO.ite ?_ ?_
   | refine LeO.bind ?_ (fun _ => ?_)
  ·intro y0 y1 y2 y3 y4 y5 y6 y7 y8 y9 y10 y11 y12
   unfold laws_FnEven.l0
   repeat' first
   | (with_reducible exact ih0 _ _ _ _ _ _ _ _ _ _)
   | (with_reducible exact ih1 _ _ _ _ _ _ _ _ _ _ _ _ _)
   | (with_reducible exact impl_Fastest.mono _ _ _ _ _ _ _ _ _)
   | (with_reducible exact spec_Fastest.mono _ _ _ _ _ _ _ _ _)
   | (with_reducible exact spec_RunOk.mono _ _ _ _ _ _ _ _ _ _)
   | (with_reducible exact LeO.refl _)
   | (with_reducible exact LeO.none _)
   | (with_reducible refine LeO.ite ?_ ?_)
   | (with_reducible refine LeO.bind ?_ (fun _ => ?_))
   | exact ih0 _ _ _ _ _ _ _ _ _ _
   | exact ih1 _ _ _ _ _ _ _ _ _ _ _ _ _
   | exact impl_Fastest.mono _ _ _ _ _ _ _ _ _
   | exact spec_Fastest.mono _ _ _ _ _ _ _ _ _
   | exact spec_RunOk.mono _ _ _ _ _ _ _ _ _ _
   | exact LeO.none _
   | refine LeO.ite ?_ ?_
   | refine LeO.bind ?_ (fun _ => ?_)
theorem laws_FnEven.mono : ∀ a0 k,LeO (laws_FnEven.f k a0) (laws_FnEven.f (k + 1) a0):=by
 intro a0 k
 obtain ⟨ih0,ih1⟩:=laws_FnEven.mono_l k
 unfold laws_FnEven.f
 repeat' first
   | (with_reducible exact ih0 _ _ _ _ _ _ _ _ _ _)
   | (with_reducible exact ih1 _ _ _ _ _ _ _ _ _ _ _ _ _)
   | (with_reducible exact impl_Fastest.mono _ _ _ _ _ _ _ _ _)
   | (with_reducible exact spec_Fastest.mono _ _ _ _ _ _ _ _ _)
   | (with_reducible exact spec_RunOk.mono _ _ _ _ _ _ _ _ _ _)
   | (with_reducible exact LeO.refl _)
   | (with_reducible exact LeO.none _)
   | (with_reducible refine LeO.ite ?_ ?_)
   | (with_reducible refine LeO.bind ?_ (fun _ => ?_))
   | exact ih0 _ _ _ _ _ _ _ _ _ _
   | exact ih1 _ _ _ _ _ _ _ _ _ _ _ _ _
   | exact impl_Fastest.mono _ _ _ _ _ _ _ _ _
   | exact spec_Fastest.mono _ _ _ _ _ _ _ _ _
   | exact spec_RunOk.mono _ _ _ _ _ _ _ _ _ _
   | exact LeO.none _
   | refine LeO.ite ?_ ?_
   | refine LeO.bind ?_ (fun _ => ?_)
theorem laws_FnEven.j0_no : ∀ (k : Nat) (x3 : Int) (x4 : Int) (x183000 : List (S39)) (x183002 : Int) (x183003 : Int) (x183004 : Int) (x189000 : Bool) (x189001 : Int) (x189002 : List Int),¬ laws_FnEven.j0 k x3 x4 true x183000 x183002 x183003 x183004 x189000 x189001 x189002 = some true:=by
 intro k
 cases k <;> simp [laws_FnEven.j0]
def laws_FnEven.T17 : Bool × List (List Nat × List Nat):=(true,[([],[]),([],[]),([0,1],[0,1]),([2],[2]),([3],[3]),([4,3],[3,4]),([3],[3]),([3],[3]),([6,7,3,3],[3,6,7]),([8,3],[3,8]),([5,9,3],[3,5,9]),([3,10],[3,10]),([11,8,0,1,2,3,4,5,6,7,8,9,10,11],[11])])
def laws_FnEven.B17 : List Nat:=[0,0,3,7,15,31,15,15,207,463,1023,2047,4095]
theorem laws_FnEven.tab17 : rtab .any (opsOf Try.f4 17) = laws_FnEven.T17:=by kernel_rfl
theorem laws_FnEven.bits17 : waitsOk laws_FnEven.T17.2 laws_FnEven.B17 = true:=by kernel_rfl
theorem run_fld (t : Bool) (x : Int) (v : Value) (w' : World) : Sem.run Try.prog (Instr.field 41 (Value.agg #[Value.bool t, Value.int IntKind.i64 x, v]) 1) w' = .ok (.int .i64 x) w' := by kernel_rfl
set_option maxHeartbeats 8000000 in
set_option maxRecDepth 100000 in
theorem laws_FnEven.calls (k : Nat) (A0 : Option Addr) (c0 : Nat) (l0 : List Int) (r : Bool) (w : World) (hr0 : Kd.C (Kd.int .u8) w A0 l0.length l0) (hc0 : l0.length ≤ c0) (hrt : As (r = true)) (h : laws_FnEven.f k l0 = some r) :
  Calls Try.prog 4 #[.slice A0 l0.length c0] w fun e w' => e = .returned (.bool r)∧Below w.heap.size w w':=by
 have hu39:=Try.underlying39
 have hu26:=Try.underlying26
 have hu41:=Try.underlying41
 have hfld:=run_fld
 have HR0:=Am hr0
 have HC0:=Am hc0
 clear hr0 hc0
 have HB:=Am (Below.refl w.heap.size w)
 have H : (if (l0.length : Int) > 1048576 then (some true) else ((laws_wByte.f l0 0).bind fun t176 => ((laws_wByte.f l0 1).bind fun t177 => ((laws_wByte.f l0 2).bind fun t178 => ((some (([(⟨wrap64 (1 + (Int.tmod (wrap64 (t176 * 2)) 400)),wrap64 (10 + (Int.tmod t178 20))⟩ : S39)] : List (S39)) : List (S39))).bind fun y179 => ((impl_Fastest.f k y179 ([] : List (S45)) 0 (wrap64 (1 + (Int.tmod (wrap64 (t176 * 2)) 400))) 0 (wrap64 (1 + (Int.tmod t177 9))) 0 0).bind fun bt183 => ((impl_Fastest.f k y179 ([] : List (S45)) 0 (wrap64 (1 + (Int.tmod (wrap64 (t176 * 2)) 400))) 0 (wrap64 (2 * (wrap64 (1 + (Int.tmod t177 9))))) 0 0).bind fun bt189 => (if bt183.1 = true then (if bt189.1 = true then (if bt189.2.1 > bt183.2.1 then (laws_FnEven.j0 k (wrap64 (1 + (Int.tmod (wrap64 (t176 * 2)) 400))) (wrap64 (1 + (Int.tmod t177 9))) true y179 0 (wrap64 (1 + (Int.tmod (wrap64 (t176 * 2)) 400))) 0 bt183.1 bt183.2.1 bt183.2.2) else ((spec_RunOk.f k y179 ([] : List (S45)) 0 (wrap64 (1 + (Int.tmod (wrap64 (t176 * 2)) 400))) 0 (wrap64 (1 + (Int.tmod t177 9))) 0 0 bt183.2.2).bind fun t195 => (laws_FnEven.j0 k (wrap64 (1 + (Int.tmod (wrap64 (t176 * 2)) 400))) (wrap64 (1 + (Int.tmod t177 9))) (!t195) y179 0 (wrap64 (1 + (Int.tmod (wrap64 (t176 * 2)) 400))) 0 bt183.1 bt183.2.1 bt183.2.2))) else (laws_FnEven.j0 k (wrap64 (1 + (Int.tmod (wrap64 (t176 * 2)) 400))) (wrap64 (1 + (Int.tmod t177 9))) true y179 0 (wrap64 (1 + (Int.tmod (wrap64 (t176 * 2)) 400))) 0 bt183.1 bt183.2.1 bt183.2.2)) else (laws_FnEven.j0 k (wrap64 (1 + (Int.tmod (wrap64 (t176 * 2)) 400))) (wrap64 (1 + (Int.tmod t177 9))) true y179 0 (wrap64 (1 + (Int.tmod (wrap64 (t176 * 2)) 400))) 0 bt183.1 bt183.2.1 bt183.2.2))))))))) = some r:=h
 clear h
 by_cases c2 : (l0.length : Int) > 1048576
 ·rw [if_pos c2] at H
  have c2b0 : decide (1048576 < (l0.length : Int)) = true:=decide_eq_true c2
  have c2b1 : decide (1048576 < l0.length) = true:=decide_eq_true (by omega)
  clear c2
  obtain rfl:=Option.some.inj H
  go_enter Try.func4,Try.ntmps4
  go_wp2
  go_ret
  exact ⟨by first|rfl|(simp [errW_none,errW_some] <;> rfl)|(simp [*,errW_none,errW_some] <;> rfl),by repeat (first|(with_reducible first|exact HB.out|apply bA|apply bN|apply bD)|exact HB.out)⟩
 ·rw [if_neg c2] at H
  have c2b0 : decide (1048576 < (l0.length : Int)) = false:=decide_eq_false c2
  have c2b1 : decide (1048576 < l0.length) = false:=decide_eq_false (by omega)
  clear c2
  replace H:=Option.bind_eq_some_iff.mp H
  obtain ⟨t176,A30,H⟩:=H
  replace H : ((laws_wByte.f l0 1).bind fun t177 => ((laws_wByte.f l0 2).bind fun t178 => ((some (([(⟨wrap64 (1 + (Int.tmod (wrap64 (t176 * 2)) 400)),wrap64 (10 + (Int.tmod t178 20))⟩ : S39)] : List (S39)) : List (S39))).bind fun y179 => ((impl_Fastest.f k y179 ([] : List (S45)) 0 (wrap64 (1 + (Int.tmod (wrap64 (t176 * 2)) 400))) 0 (wrap64 (1 + (Int.tmod t177 9))) 0 0).bind fun bt183 => ((impl_Fastest.f k y179 ([] : List (S45)) 0 (wrap64 (1 + (Int.tmod (wrap64 (t176 * 2)) 400))) 0 (wrap64 (2 * (wrap64 (1 + (Int.tmod t177 9))))) 0 0).bind fun bt189 => (if bt183.1 = true then (if bt189.1 = true then (if bt189.2.1 > bt183.2.1 then (laws_FnEven.j0 k (wrap64 (1 + (Int.tmod (wrap64 (t176 * 2)) 400))) (wrap64 (1 + (Int.tmod t177 9))) true y179 0 (wrap64 (1 + (Int.tmod (wrap64 (t176 * 2)) 400))) 0 bt183.1 bt183.2.1 bt183.2.2) else ((spec_RunOk.f k y179 ([] : List (S45)) 0 (wrap64 (1 + (Int.tmod (wrap64 (t176 * 2)) 400))) 0 (wrap64 (1 + (Int.tmod t177 9))) 0 0 bt183.2.2).bind fun t195 => (laws_FnEven.j0 k (wrap64 (1 + (Int.tmod (wrap64 (t176 * 2)) 400))) (wrap64 (1 + (Int.tmod t177 9))) (!t195) y179 0 (wrap64 (1 + (Int.tmod (wrap64 (t176 * 2)) 400))) 0 bt183.1 bt183.2.1 bt183.2.2))) else (laws_FnEven.j0 k (wrap64 (1 + (Int.tmod (wrap64 (t176 * 2)) 400))) (wrap64 (1 + (Int.tmod t177 9))) true y179 0 (wrap64 (1 + (Int.tmod (wrap64 (t176 * 2)) 400))) 0 bt183.1 bt183.2.1 bt183.2.2)) else (laws_FnEven.j0 k (wrap64 (1 + (Int.tmod (wrap64 (t176 * 2)) 400))) (wrap64 (1 + (Int.tmod t177 9))) true y179 0 (wrap64 (1 + (Int.tmod (wrap64 (t176 * 2)) 400))) 0 bt183.1 bt183.2.1 bt183.2.2))))))) = some r:=H
  have A3:=Am A30
  clear A30
  replace H:=Option.bind_eq_some_iff.mp H
  obtain ⟨t177,A40,H⟩:=H
  replace H : ((laws_wByte.f l0 2).bind fun t178 => ((some (([(⟨wrap64 (1 + (Int.tmod (wrap64 (t176 * 2)) 400)),wrap64 (10 + (Int.tmod t178 20))⟩ : S39)] : List (S39)) : List (S39))).bind fun y179 => ((impl_Fastest.f k y179 ([] : List (S45)) 0 (wrap64 (1 + (Int.tmod (wrap64 (t176 * 2)) 400))) 0 (wrap64 (1 + (Int.tmod t177 9))) 0 0).bind fun bt183 => ((impl_Fastest.f k y179 ([] : List (S45)) 0 (wrap64 (1 + (Int.tmod (wrap64 (t176 * 2)) 400))) 0 (wrap64 (2 * (wrap64 (1 + (Int.tmod t177 9))))) 0 0).bind fun bt189 => (if bt183.1 = true then (if bt189.1 = true then (if bt189.2.1 > bt183.2.1 then (laws_FnEven.j0 k (wrap64 (1 + (Int.tmod (wrap64 (t176 * 2)) 400))) (wrap64 (1 + (Int.tmod t177 9))) true y179 0 (wrap64 (1 + (Int.tmod (wrap64 (t176 * 2)) 400))) 0 bt183.1 bt183.2.1 bt183.2.2) else ((spec_RunOk.f k y179 ([] : List (S45)) 0 (wrap64 (1 + (Int.tmod (wrap64 (t176 * 2)) 400))) 0 (wrap64 (1 + (Int.tmod t177 9))) 0 0 bt183.2.2).bind fun t195 => (laws_FnEven.j0 k (wrap64 (1 + (Int.tmod (wrap64 (t176 * 2)) 400))) (wrap64 (1 + (Int.tmod t177 9))) (!t195) y179 0 (wrap64 (1 + (Int.tmod (wrap64 (t176 * 2)) 400))) 0 bt183.1 bt183.2.1 bt183.2.2))) else (laws_FnEven.j0 k (wrap64 (1 + (Int.tmod (wrap64 (t176 * 2)) 400))) (wrap64 (1 + (Int.tmod t177 9))) true y179 0 (wrap64 (1 + (Int.tmod (wrap64 (t176 * 2)) 400))) 0 bt183.1 bt183.2.1 bt183.2.2)) else (laws_FnEven.j0 k (wrap64 (1 + (Int.tmod (wrap64 (t176 * 2)) 400))) (wrap64 (1 + (Int.tmod t177 9))) true y179 0 (wrap64 (1 + (Int.tmod (wrap64 (t176 * 2)) 400))) 0 bt183.1 bt183.2.1 bt183.2.2)))))) = some r:=H
  have A4:=Am A40
  clear A40
  replace H:=Option.bind_eq_some_iff.mp H
  obtain ⟨t178,A50,H⟩:=H
  replace H : ((some (([(⟨wrap64 (1 + (Int.tmod (wrap64 (t176 * 2)) 400)),wrap64 (10 + (Int.tmod t178 20))⟩ : S39)] : List (S39)) : List (S39))).bind fun y179 => ((impl_Fastest.f k y179 ([] : List (S45)) 0 (wrap64 (1 + (Int.tmod (wrap64 (t176 * 2)) 400))) 0 (wrap64 (1 + (Int.tmod t177 9))) 0 0).bind fun bt183 => ((impl_Fastest.f k y179 ([] : List (S45)) 0 (wrap64 (1 + (Int.tmod (wrap64 (t176 * 2)) 400))) 0 (wrap64 (2 * (wrap64 (1 + (Int.tmod t177 9))))) 0 0).bind fun bt189 => (if bt183.1 = true then (if bt189.1 = true then (if bt189.2.1 > bt183.2.1 then (laws_FnEven.j0 k (wrap64 (1 + (Int.tmod (wrap64 (t176 * 2)) 400))) (wrap64 (1 + (Int.tmod t177 9))) true y179 0 (wrap64 (1 + (Int.tmod (wrap64 (t176 * 2)) 400))) 0 bt183.1 bt183.2.1 bt183.2.2) else ((spec_RunOk.f k y179 ([] : List (S45)) 0 (wrap64 (1 + (Int.tmod (wrap64 (t176 * 2)) 400))) 0 (wrap64 (1 + (Int.tmod t177 9))) 0 0 bt183.2.2).bind fun t195 => (laws_FnEven.j0 k (wrap64 (1 + (Int.tmod (wrap64 (t176 * 2)) 400))) (wrap64 (1 + (Int.tmod t177 9))) (!t195) y179 0 (wrap64 (1 + (Int.tmod (wrap64 (t176 * 2)) 400))) 0 bt183.1 bt183.2.1 bt183.2.2))) else (laws_FnEven.j0 k (wrap64 (1 + (Int.tmod (wrap64 (t176 * 2)) 400))) (wrap64 (1 + (Int.tmod t177 9))) true y179 0 (wrap64 (1 + (Int.tmod (wrap64 (t176 * 2)) 400))) 0 bt183.1 bt183.2.1 bt183.2.2)) else (laws_FnEven.j0 k (wrap64 (1 + (Int.tmod (wrap64 (t176 * 2)) 400))) (wrap64 (1 + (Int.tmod t177 9))) true y179 0 (wrap64 (1 + (Int.tmod (wrap64 (t176 * 2)) 400))) 0 bt183.1 bt183.2.1 bt183.2.2))))) = some r:=H
  have A5:=Am A50
  clear A50
  obtain ⟨y179,hy179⟩ : ∃ y_ : List (S39),y_ = (([(⟨wrap64 (1 + (Int.tmod (wrap64 (t176 * 2)) 400)),wrap64 (10 + (Int.tmod t178 20))⟩ : S39)] : List (S39))):=⟨_,rfl⟩
  replace H : ((impl_Fastest.f k y179 ([] : List (S45)) 0 (wrap64 (1 + (Int.tmod (wrap64 (t176 * 2)) 400))) 0 (wrap64 (1 + (Int.tmod t177 9))) 0 0).bind fun bt183 => ((impl_Fastest.f k y179 ([] : List (S45)) 0 (wrap64 (1 + (Int.tmod (wrap64 (t176 * 2)) 400))) 0 (wrap64 (2 * (wrap64 (1 + (Int.tmod t177 9))))) 0 0).bind fun bt189 => (if bt183.1 = true then (if bt189.1 = true then (if bt189.2.1 > bt183.2.1 then (laws_FnEven.j0 k (wrap64 (1 + (Int.tmod (wrap64 (t176 * 2)) 400))) (wrap64 (1 + (Int.tmod t177 9))) true y179 0 (wrap64 (1 + (Int.tmod (wrap64 (t176 * 2)) 400))) 0 bt183.1 bt183.2.1 bt183.2.2) else ((spec_RunOk.f k y179 ([] : List (S45)) 0 (wrap64 (1 + (Int.tmod (wrap64 (t176 * 2)) 400))) 0 (wrap64 (1 + (Int.tmod t177 9))) 0 0 bt183.2.2).bind fun t195 => (laws_FnEven.j0 k (wrap64 (1 + (Int.tmod (wrap64 (t176 * 2)) 400))) (wrap64 (1 + (Int.tmod t177 9))) (!t195) y179 0 (wrap64 (1 + (Int.tmod (wrap64 (t176 * 2)) 400))) 0 bt183.1 bt183.2.1 bt183.2.2))) else (laws_FnEven.j0 k (wrap64 (1 + (Int.tmod (wrap64 (t176 * 2)) 400))) (wrap64 (1 + (Int.tmod t177 9))) true y179 0 (wrap64 (1 + (Int.tmod (wrap64 (t176 * 2)) 400))) 0 bt183.1 bt183.2.1 bt183.2.2)) else (laws_FnEven.j0 k (wrap64 (1 + (Int.tmod (wrap64 (t176 * 2)) 400))) (wrap64 (1 + (Int.tmod t177 9))) true y179 0 (wrap64 (1 + (Int.tmod (wrap64 (t176 * 2)) 400))) 0 bt183.1 bt183.2.1 bt183.2.2)))) = some r:=by first|(rw [hy179];with_reducible exact H)|(have H2_:=(Option.bind_some _ _).symm.trans H;rw [hy179];with_reducible exact H2_)|(have H2_:=(Option.bind_some _ _).symm.trans H;with_reducible exact H2_)|with_reducible exact H|(rw [hy179];exact H)|exact H
  have Ny179:=Am hy179
  clear hy179
  replace H:=Option.bind_eq_some_iff.mp H
  obtain ⟨⟨t183,t184,t185⟩,A60,H⟩:=H
  replace H : ((impl_Fastest.f k y179 ([] : List (S45)) 0 (wrap64 (1 + (Int.tmod (wrap64 (t176 * 2)) 400))) 0 (wrap64 (2 * (wrap64 (1 + (Int.tmod t177 9))))) 0 0).bind fun bt189 => (if t183 = true then (if bt189.1 = true then (if bt189.2.1 > t184 then (laws_FnEven.j0 k (wrap64 (1 + (Int.tmod (wrap64 (t176 * 2)) 400))) (wrap64 (1 + (Int.tmod t177 9))) true y179 0 (wrap64 (1 + (Int.tmod (wrap64 (t176 * 2)) 400))) 0 t183 t184 t185) else ((spec_RunOk.f k y179 ([] : List (S45)) 0 (wrap64 (1 + (Int.tmod (wrap64 (t176 * 2)) 400))) 0 (wrap64 (1 + (Int.tmod t177 9))) 0 0 t185).bind fun t195 => (laws_FnEven.j0 k (wrap64 (1 + (Int.tmod (wrap64 (t176 * 2)) 400))) (wrap64 (1 + (Int.tmod t177 9))) (!t195) y179 0 (wrap64 (1 + (Int.tmod (wrap64 (t176 * 2)) 400))) 0 t183 t184 t185))) else (laws_FnEven.j0 k (wrap64 (1 + (Int.tmod (wrap64 (t176 * 2)) 400))) (wrap64 (1 + (Int.tmod t177 9))) true y179 0 (wrap64 (1 + (Int.tmod (wrap64 (t176 * 2)) 400))) 0 t183 t184 t185)) else (laws_FnEven.j0 k (wrap64 (1 + (Int.tmod (wrap64 (t176 * 2)) 400))) (wrap64 (1 + (Int.tmod t177 9))) true y179 0 (wrap64 (1 + (Int.tmod (wrap64 (t176 * 2)) 400))) 0 t183 t184 t185))) = some r:=H
  have A6:=Am A60
  clear A60
  replace H:=Option.bind_eq_some_iff.mp H
  obtain ⟨⟨t189,t190,t191⟩,A70,H⟩:=H
  replace H : (if t183 = true then (if t189 = true then (if t190 > t184 then (laws_FnEven.j0 k (wrap64 (1 + (Int.tmod (wrap64 (t176 * 2)) 400))) (wrap64 (1 + (Int.tmod t177 9))) true y179 0 (wrap64 (1 + (Int.tmod (wrap64 (t176 * 2)) 400))) 0 t183 t184 t185) else ((spec_RunOk.f k y179 ([] : List (S45)) 0 (wrap64 (1 + (Int.tmod (wrap64 (t176 * 2)) 400))) 0 (wrap64 (1 + (Int.tmod t177 9))) 0 0 t185).bind fun t195 => (laws_FnEven.j0 k (wrap64 (1 + (Int.tmod (wrap64 (t176 * 2)) 400))) (wrap64 (1 + (Int.tmod t177 9))) (!t195) y179 0 (wrap64 (1 + (Int.tmod (wrap64 (t176 * 2)) 400))) 0 t183 t184 t185))) else (laws_FnEven.j0 k (wrap64 (1 + (Int.tmod (wrap64 (t176 * 2)) 400))) (wrap64 (1 + (Int.tmod t177 9))) true y179 0 (wrap64 (1 + (Int.tmod (wrap64 (t176 * 2)) 400))) 0 t183 t184 t185)) else (laws_FnEven.j0 k (wrap64 (1 + (Int.tmod (wrap64 (t176 * 2)) 400))) (wrap64 (1 + (Int.tmod t177 9))) true y179 0 (wrap64 (1 + (Int.tmod (wrap64 (t176 * 2)) 400))) 0 t183 t184 t185)) = some r:=H
  have A7:=Am A70
  clear A70
  have HC8:=Am H
  clear H
  go_enter Try.func4,Try.ntmps4
  go_upto_region 9 with (first|((with_reducible refine gate_callee (f:=15) rfl ?_);refine goesL_ (some 16) rfl rfl Try.func15 (by kernel_rfl) rfl #[.slice A0 l0.length c0,.int .i64 0] rfl (by (try simp only [List.map_toArray,List.map_cons,List.map_nil]);first|done|rfl|(simp only [List.length_drop,List.length_take];rfl)) ?_;(with_reducible refine (laws_wByte.calls _ _ l0 0 t176 _ ?side1 ?side2 A3.out).mono ?_);(case side1 => repeat (first|exact HR0.out|(with_reducible refine Kd.C_alloc ?_ _)|(with_reducible refine Kd.C_drewN ?_ _)|(with_reducible refine Kd.C_drew ?_)));(case side2 => exact HC0.out);rintro e w' ⟨rfl,⟨nd,rfl⟩⟩;refine ⟨_,rfl,?_⟩)|((with_reducible refine gate_callee (f:=15) rfl ?_);refine goesL_ (some 21) rfl rfl Try.func15 (by kernel_rfl) rfl #[.slice A0 l0.length c0,.int .i64 1] rfl (by (try simp only [List.map_toArray,List.map_cons,List.map_nil]);first|done|rfl|(simp only [List.length_drop,List.length_take];rfl)) ?_;(with_reducible refine (laws_wByte.calls _ _ l0 1 t177 _ ?side1 ?side2 A4.out).mono ?_);(case side1 => repeat (first|exact HR0.out|(with_reducible refine Kd.C_alloc ?_ _)|(with_reducible refine Kd.C_drewN ?_ _)|(with_reducible refine Kd.C_drew ?_)));(case side2 => exact HC0.out);rintro e w' ⟨rfl,⟨nd,rfl⟩⟩;refine ⟨_,rfl,?_⟩)|((with_reducible refine gate_callee (f:=15) rfl ?_);refine goesL_ (some 25) rfl rfl Try.func15 (by kernel_rfl) rfl #[.slice A0 l0.length c0,.int .i64 2] rfl (by (try simp only [List.map_toArray,List.map_cons,List.map_nil]);first|done|rfl|(simp only [List.length_drop,List.length_take];rfl)) ?_;(with_reducible refine (laws_wByte.calls _ _ l0 2 t178 _ ?side1 ?side2 A5.out).mono ?_);(case side1 => repeat (first|exact HR0.out|(with_reducible refine Kd.C_alloc ?_ _)|(with_reducible refine Kd.C_drewN ?_ _)|(with_reducible refine Kd.C_drew ?_)));(case side2 => exact HC0.out);rintro e w' ⟨rfl,⟨nd,rfl⟩⟩;refine ⟨_,rfl,?_⟩)|((with_reducible refine gate_dst (N:=31) rfl ?_);refine Kd.R_lit k39 _ 39 ?hg (N:=31) ?hd (xs:=([(⟨wrap64 (1 + (Int.tmod (wrap64 (t176 * 2)) 400)),wrap64 (10 + (Int.tmod t178 20))⟩ : S39)] : List (S39))) (inner:=[.int .i64 (wrap64 (1 + (Int.tmod (wrap64 (t176 * 2)) 400))),.int .i64 (wrap64 (10 + (Int.tmod t178 20)))]) (ok:=fun _ => True) (okp:=fun _ => True) ?hr ?hp (fun _ hk => hk) trivial (Below.refl _ _) (Nat.le_refl _) (by simp) ?_;(case hd => rfl);(case hg => rfl);(case hr => first|(go_simp;done)|(go_simp;rfl));(case hp => exact (Reps.c2 (show Kd.M k39 _ _ _ (⟨wrap64 (1 + (Int.tmod (wrap64 (t176 * 2)) 400)),wrap64 (10 + (Int.tmod t178 20))⟩ : S39) [.int .i64 (wrap64 (1 + (Int.tmod (wrap64 (t176 * 2)) 400))),.int .i64 (wrap64 (10 + (Int.tmod t178 20)))] from (k39_mkM _ _ _ (⟨wrap64 (1 + (Int.tmod (wrap64 (t176 * 2)) 400)),wrap64 (10 + (Int.tmod t178 20))⟩ : S39) )) (Reps.none _ _)));intro v180 w9 ho10 hb hg_ hnew_;clear hg_ hnew_;(first|rw [← Ny179.out] at ho10|(simp only [Int.reduceToNat] at ho10;rw [← Ny179.out] at ho10));have n0_:=Am (Kd.R_lower ho10 (below_size (by repeat (first|(with_reducible first|exact HB.out|apply bA|apply bN|apply bD)|exact HB.out))));have n1_:=Am (below_step (by repeat (first|(with_reducible first|exact HB.out|apply bA|apply bN|apply bD)|exact HB.out)) hb);clear HB;have HO181:=n0_;have HB:=n1_;clear n0_ n1_;clear hb ho10;obtain ⟨Ao11,co11,eo11⟩:=Kd.R_slice HO181.out;subst eo11)|((with_reducible refine gate_dst (N:=6) rfl ?_);refine box_event ?hg (N:=6) ?hd (cs:=#[.slice none 0 0,.slice none 0 0,.int .i64 0,.int .i64 0,.int .i64 0]) (t:=26) ?hr ?_;(case hd => rfl);(case hg => rfl);(case hr => first|(go_simp;done)|(go_simp;rfl));intro gb182 hg w12 hbox hb;have n0_:=Am (Kd.R_below (by (with_reducible repeat (first|apply Kd.R_alloc|apply Kd.R_drewN|apply Kd.R_drew));exact HO181.out) hb);have n1_:=Am (below_step (by repeat (first|(with_reducible first|exact HB.out|apply bA|apply bN|apply bD)|exact HB.out)) hb);have n2_:=Am (hbox);have n3_:=Am ((by rw [hg];exact (below_size (by repeat (first|(with_reducible first|exact HB.out|apply bA|apply bN|apply bD)|exact HB.out))) : w.heap.size ≤ gb182));have n4_:=Am ((by rw [hg];exact (below_size (by repeat (first|(with_reducible first|exact HB.out|apply bA|apply bN|apply bD)|exact HB.out))) : w.heap.size ≤ gb182));clear HO181;clear HB;have HO181:=n0_;have HB:=n1_;have BK182:=n2_;have GW182:=n3_;have GE182:=n4_;clear n0_ n1_ n2_ n3_ n4_;clear hb hbox hg;have hcz13_0 : w12.cell? ⟨gb182,0,none⟩ = some (.slice none 0 0):=(kC BK182.out 0).trans rfl;have hcz13_1 : w12.cell? ⟨gb182,1,none⟩ = some (.slice none 0 0):=(kC BK182.out 1).trans rfl;have hcz13_2 : w12.cell? ⟨gb182,2,none⟩ = some (.int .i64 0):=(kC BK182.out 2).trans rfl;have hcz13_3 : w12.cell? ⟨gb182,3,none⟩ = some (.int .i64 0):=(kC BK182.out 3).trans rfl;have hcz13_4 : w12.cell? ⟨gb182,4,none⟩ = some (.int .i64 0):=(kC BK182.out 4).trans rfl;have hfz13_0:=kF BK182.out 0;have hfz13_1:=kF BK182.out 1;have hfz13_2:=kF BK182.out 2;have hfz13_3:=kF BK182.out 3;have hfz13_4:=kF BK182.out 4)|((with_reducible refine gate_callee (f:=16) rfl ?_);refine goesL_ (some 36) rfl rfl Try.func16 (by kernel_rfl) rfl #[.agg #[.slice Ao11 y179.length co11,.slice none 0 0,.int .i64 0,.int .i64 (wrap64 (1 + (Int.tmod (wrap64 (t176 * 2)) 400))),.int .i64 0],.int .i64 (wrap64 (1 + (Int.tmod t177 9))),.int .i64 0,.int .i64 0] rfl (by (try simp only [List.map_toArray,List.map_cons,List.map_nil]);first|done|rfl|(simp only [List.length_drop,List.length_take];rfl)) ?_;(refine (impl_Fastest.calls k _ _ y179 _ _ ([] : List (S45)) 0 (wrap64 (1 + (Int.tmod (wrap64 (t176 * 2)) 400))) 0 (wrap64 (1 + (Int.tmod t177 9))) 0 0 t183 t184 t185 _ ?side1 ?side2 ?side3 ?side4 A6.out).mono ?_);(case side1 => refine (Kd.R_reads' (e:=39) (base:=w.heap.size) (ok:=fun k_ => True) (n:=y179.length) (c:=co11) ?_).2.2;exact (by (with_reducible repeat (first|apply Kd.R_alloc|apply Kd.R_drewN|apply Kd.R_drew));exact (Kd.R_mono (Kd.R_far (p:=⟨gb182,4,none⟩) (Kd.R_far (p:=⟨gb182,3,none⟩) (Kd.R_far (p:=⟨gb182,2,none⟩) (Kd.R_far (p:=⟨gb182,1,none⟩) (Kd.R_far (p:=⟨gb182,0,none⟩) (Kd.R_types HO181.out BK182.out (by decide)) (fun _ hk => hk.2) (.slice Ao11 y179.length co11)) (fun _ hk => hk.2) (.slice none 0 0)) (fun _ hk => hk.2) (.int .i64 0)) (fun _ hk => hk.2) (.int .i64 (wrap64 (1 + (Int.tmod (wrap64 (t176 * 2)) 400))))) (fun _ hk => hk.2) (.int .i64 0)) (fun _ h_ => h_.1))));(case side2 => exact (Kd.R_reads' HO181.out).2.1);(case side3 => exact Kd.C_nil _ _);(case side4 => exact Nat.le_refl _);rintro e w14 ⟨v186,rfl,ho0,hb⟩;refine ⟨_,rfl,?_⟩;have n0_:=Am (Kd.R_below (by (with_reducible repeat (first|apply Kd.R_alloc|apply Kd.R_drewN|apply Kd.R_drew));exact (Kd.R_mono (Kd.R_far (p:=⟨gb182,4,none⟩) (Kd.R_far (p:=⟨gb182,3,none⟩) (Kd.R_far (p:=⟨gb182,2,none⟩) (Kd.R_far (p:=⟨gb182,1,none⟩) (Kd.R_far (p:=⟨gb182,0,none⟩) (Kd.R_types HO181.out BK182.out (by decide)) (fun _ hk => hk.2) (.slice Ao11 y179.length co11)) (fun _ hk => hk.2) (.slice none 0 0)) (fun _ hk => hk.2) (.int .i64 0)) (fun _ hk => hk.2) (.int .i64 (wrap64 (1 + (Int.tmod (wrap64 (t176 * 2)) 400))))) (fun _ hk => hk.2) (.int .i64 0)) (fun _ h_ => h_.1))) hb);have n1_:=Am (Kd.R_lower ho0 (below_size (by repeat (first|(with_reducible first|exact HB.out|apply bA|apply bN|apply bD|refine bS ?_ GE182.out)|exact HB.out))));have n2_:=Am (blk_below (g:=gb182) (o:=.cells #[.slice Ao11 y179.length co11,.slice none 0 0,.int .i64 0,.int .i64 (wrap64 (1 + (Int.tmod (wrap64 (t176 * 2)) 400))),.int .i64 0] 26 (0,0)) (by (with_reducible repeat (first|refine kN ?_ _|refine kD ?_|refine kA ?_ _));refine blk_put (cs:=#[.slice Ao11 y179.length co11,.slice none 0 0,.int .i64 0,.int .i64 (wrap64 (1 + (Int.tmod (wrap64 (t176 * 2)) 400))),.int .i64 0]) ?_ 4 _ rfl;(with_reducible repeat (first|refine kN ?_ _|refine kD ?_|refine kA ?_ _));refine blk_put (cs:=#[.slice Ao11 y179.length co11,.slice none 0 0,.int .i64 0,.int .i64 0,.int .i64 0]) ?_ 3 _ rfl;(with_reducible repeat (first|refine kN ?_ _|refine kD ?_|refine kA ?_ _));refine blk_put (cs:=#[.slice Ao11 y179.length co11,.slice none 0 0,.int .i64 0,.int .i64 0,.int .i64 0]) ?_ 2 _ rfl;(with_reducible repeat (first|refine kN ?_ _|refine kD ?_|refine kA ?_ _));refine blk_put (cs:=#[.slice Ao11 y179.length co11,.slice none 0 0,.int .i64 0,.int .i64 0,.int .i64 0]) ?_ 1 _ rfl;(with_reducible repeat (first|refine kN ?_ _|refine kD ?_|refine kA ?_ _));refine blk_put (cs:=#[.slice none 0 0,.slice none 0 0,.int .i64 0,.int .i64 0,.int .i64 0]) ?_ 0 _ rfl;(with_reducible repeat (first|refine kN ?_ _|refine kD ?_|refine kA ?_ _));exact BK182.out) hb);have n3_:=Am (below_step (by repeat (first|(with_reducible first|exact HB.out|apply bA|apply bN|apply bD|refine bS ?_ GE182.out)|exact HB.out)) hb);clear HO181;clear BK182;clear HB;have HO181:=n0_;have HO187:=n1_;have BK182:=n2_;have HB:=n3_;clear n0_ n1_ n2_ n3_;(try clear hb);(try clear hb2);(try clear hk);(try clear hi);(try clear ho0))|((with_reducible refine gate_dst (N:=7) rfl ?_);refine box_event ?hg (N:=7) ?hd (cs:=#[.bool false,.int .i64 0,.slice none 0 0]) (t:=41) ?hr ?_;(case hd => rfl);(case hg => rfl);(case hr => first|(go_simp;done)|(go_simp;rfl));intro gb188 hg w15 hbox hb;have n0_:=Am (Kd.R_below (by (with_reducible repeat (first|apply Kd.R_alloc|apply Kd.R_drewN|apply Kd.R_drew));exact HO181.out) hb);have n1_:=Am (Kd.R_below (by (with_reducible repeat (first|apply Kd.R_alloc|apply Kd.R_drewN|apply Kd.R_drew));exact HO187.out) hb);have n2_:=Am (blk_below (g:=gb182) (o:=.cells #[.slice Ao11 y179.length co11,.slice none 0 0,.int .i64 0,.int .i64 (wrap64 (1 + (Int.tmod (wrap64 (t176 * 2)) 400))),.int .i64 0] 26 (0,0)) (by (with_reducible repeat (first|refine kN ?_ _|refine kD ?_|refine kA ?_ _));exact BK182.out) hb);have n3_:=Am (below_step (by repeat (first|(with_reducible first|exact HB.out|apply bA|apply bN|apply bD|refine bS ?_ GE182.out)|exact HB.out)) hb);have n4_:=Am (hbox);have n5_:=Am ((by rw [hg];exact (below_size (by repeat (first|(with_reducible first|exact HB.out|apply bA|apply bN|apply bD|refine bS ?_ GE182.out)|exact HB.out))) : w.heap.size ≤ gb188));have n6_:=Am ((by rw [hg];exact (below_size (by repeat (first|(with_reducible first|exact HB.out|apply bA|apply bN|apply bD|refine bS ?_ GE182.out)|exact HB.out))) : w.heap.size ≤ gb188));have n7_:=Am ((by rw [hg];exact Nat.ne_of_lt (blk_lt (g:=gb182) (o:=.cells #[.slice Ao11 y179.length co11,.slice none 0 0,.int .i64 0,.int .i64 (wrap64 (1 + (Int.tmod (wrap64 (t176 * 2)) 400))),.int .i64 0] 26 (0,0)) (by (with_reducible repeat (first|refine kN ?_ _|refine kD ?_|refine kA ?_ _));exact BK182.out)) : gb182 ≠ gb188));have n8_:=Am ((by rw [hg];exact Nat.ne_of_gt (blk_lt (g:=gb182) (o:=.cells #[.slice Ao11 y179.length co11,.slice none 0 0,.int .i64 0,.int .i64 (wrap64 (1 + (Int.tmod (wrap64 (t176 * 2)) 400))),.int .i64 0] 26 (0,0)) (by (with_reducible repeat (first|refine kN ?_ _|refine kD ?_|refine kA ?_ _));exact BK182.out)) : gb188 ≠ gb182));clear HO181;clear HO187;clear BK182;clear HB;have HO181:=n0_;have HO187:=n1_;have BK182:=n2_;have HB:=n3_;have BK188:=n4_;have GW188:=n5_;have GE188:=n6_;have NB182_188:=n7_;have NB188_182:=n8_;clear n0_ n1_ n2_ n3_ n4_ n5_ n6_ n7_ n8_;clear hb hbox hg;have hnb16:=NB188_182.out;have hnc16:=NB182_188.out;have hcz17_0 : w15.cell? ⟨gb188,0,none⟩ = some (.bool false):=(kC BK188.out 0).trans rfl;have hcz17_1 : w15.cell? ⟨gb188,1,none⟩ = some (.int .i64 0):=(kC BK188.out 1).trans rfl;have hcz17_2 : w15.cell? ⟨gb188,2,none⟩ = some (.slice none 0 0):=(kC BK188.out 2).trans rfl;have hfz17_0:=kF BK188.out 0;have hfz17_1:=kF BK188.out 1;have hfz17_2:=kF BK188.out 2;obtain ⟨Ao18,co18,eo18⟩:=Kd.R_slice HO187.out;subst eo18;have hcz19_0 : w15.cell? ⟨gb182,0,none⟩ = some (.slice Ao11 y179.length co11):=(kC BK182.out 0).trans rfl;have hcz19_1 : w15.cell? ⟨gb182,1,none⟩ = some (.slice none 0 0):=(kC BK182.out 1).trans rfl;have hcz19_2 : w15.cell? ⟨gb182,2,none⟩ = some (.int .i64 0):=(kC BK182.out 2).trans rfl;have hcz19_3 : w15.cell? ⟨gb182,3,none⟩ = some (.int .i64 (wrap64 (1 + (Int.tmod (wrap64 (t176 * 2)) 400)))):=(kC BK182.out 3).trans rfl;have hcz19_4 : w15.cell? ⟨gb182,4,none⟩ = some (.int .i64 0):=(kC BK182.out 4).trans rfl;have hfz19_0:=kF BK182.out 0;have hfz19_1:=kF BK182.out 1;have hfz19_2:=kF BK182.out 2;have hfz19_3:=kF BK182.out 3;have hfz19_4:=kF BK182.out 4)|((with_reducible refine gate_callee (f:=16) rfl ?_);refine goesL_ (some 40) rfl rfl Try.func16 (by kernel_rfl) rfl #[.agg #[.slice Ao11 y179.length co11,.slice none 0 0,.int .i64 0,.int .i64 (wrap64 (1 + (Int.tmod (wrap64 (t176 * 2)) 400))),.int .i64 0],.int .i64 (wrap64 (2 * (wrap64 (1 + (Int.tmod t177 9))))),.int .i64 0,.int .i64 0] rfl (by (try simp only [List.map_toArray,List.map_cons,List.map_nil]);first|done|rfl|(simp only [List.length_drop,List.length_take];rfl)) ?_;(refine (impl_Fastest.calls k _ _ y179 _ _ ([] : List (S45)) 0 (wrap64 (1 + (Int.tmod (wrap64 (t176 * 2)) 400))) 0 (wrap64 (2 * (wrap64 (1 + (Int.tmod t177 9))))) 0 0 t189 t190 t191 _ ?side1 ?side2 ?side3 ?side4 A7.out).mono ?_);(case side1 => refine (Kd.R_reads' (e:=39) (base:=w.heap.size) (ok:=fun k_ => True) (n:=y179.length) (c:=co11) ?_).2.2;exact (by (with_reducible repeat (first|apply Kd.R_alloc|apply Kd.R_drewN|apply Kd.R_drew));exact (Kd.R_mono (Kd.R_far (p:=⟨gb188,2,none⟩) (Kd.R_far (p:=⟨gb188,1,none⟩) (Kd.R_far (p:=⟨gb188,0,none⟩) (Kd.R_types HO181.out BK188.out (by decide)) (fun _ hk => hk.2) (.bool t183)) (fun _ hk => hk.2) (.int .i64 t184)) (fun _ hk => hk.2) (.slice Ao18 t185.length co18)) (fun _ h_ => h_.1))));(case side2 => exact (Kd.R_reads' HO181.out).2.1);(case side3 => exact Kd.C_nil _ _);(case side4 => exact Nat.le_refl _);rintro e w20 ⟨v192,rfl,ho0,hb⟩;refine ⟨_,rfl,?_⟩;have n0_:=Am (Kd.R_below (by (with_reducible repeat (first|apply Kd.R_alloc|apply Kd.R_drewN|apply Kd.R_drew));exact (Kd.R_mono (Kd.R_far (p:=⟨gb188,2,none⟩) (Kd.R_far (p:=⟨gb188,1,none⟩) (Kd.R_far (p:=⟨gb188,0,none⟩) (Kd.R_types HO181.out BK188.out (by decide)) (fun _ hk => hk.2) (.bool t183)) (fun _ hk => hk.2) (.int .i64 t184)) (fun _ hk => hk.2) (.slice Ao18 t185.length co18)) (fun _ h_ => h_.1))) hb);have n1_:=Am (Kd.R_elder' (by (with_reducible repeat (first|apply Kd.R_alloc|apply Kd.R_drewN|apply Kd.R_drew));exact (Kd.R_mono (Kd.R_far (p:=⟨gb188,2,none⟩) (Kd.R_far (p:=⟨gb188,1,none⟩) (Kd.R_far (p:=⟨gb188,0,none⟩) (Kd.R_types HO187.out BK188.out (by decide)) (fun _ hk => hk.2) (.bool t183)) (fun _ hk => hk.2) (.int .i64 t184)) (fun _ hk => hk.2) (.slice Ao18 t185.length co18)) (fun _ h_ => h_.1))) (Kd.R_base ho0) hb);have n2_:=Am (Kd.R_lower (Kd.R_new' ho0 (Kd.R_lt (by (with_reducible repeat (first|apply Kd.R_alloc|apply Kd.R_drewN|apply Kd.R_drew));exact (Kd.R_mono (Kd.R_far (p:=⟨gb188,2,none⟩) (Kd.R_far (p:=⟨gb188,1,none⟩) (Kd.R_far (p:=⟨gb188,0,none⟩) (Kd.R_types HO187.out BK188.out (by decide)) (fun _ hk => hk.2) (.bool t183)) (fun _ hk => hk.2) (.int .i64 t184)) (fun _ hk => hk.2) (.slice Ao18 t185.length co18)) (fun _ h_ => h_.1))))) (below_size (by repeat (first|(with_reducible first|exact HB.out|apply bA|apply bN|apply bD|refine bS ?_ GE182.out|refine bS ?_ GE188.out)|exact HB.out))));have n3_:=Am (blk_below (g:=gb182) (o:=.cells #[.slice Ao11 y179.length co11,.slice none 0 0,.int .i64 0,.int .i64 (wrap64 (1 + (Int.tmod (wrap64 (t176 * 2)) 400))),.int .i64 0] 26 (0,0)) (by (with_reducible repeat (first|refine kN ?_ _|refine kD ?_|refine kA ?_ _));refine blk_far ?_ NB182_188.out _;(with_reducible repeat (first|refine kN ?_ _|refine kD ?_|refine kA ?_ _));refine blk_far ?_ NB182_188.out _;(with_reducible repeat (first|refine kN ?_ _|refine kD ?_|refine kA ?_ _));refine blk_far ?_ NB182_188.out _;(with_reducible repeat (first|refine kN ?_ _|refine kD ?_|refine kA ?_ _));exact BK182.out) hb);have n4_:=Am (blk_below (g:=gb188) (o:=.cells #[.bool t183,.int .i64 t184,.slice Ao18 t185.length co18] 41 (0,0)) (by (with_reducible repeat (first|refine kN ?_ _|refine kD ?_|refine kA ?_ _));refine blk_put (cs:=#[.bool t183,.int .i64 t184,.slice none 0 0]) ?_ 2 _ rfl;(with_reducible repeat (first|refine kN ?_ _|refine kD ?_|refine kA ?_ _));refine blk_put (cs:=#[.bool t183,.int .i64 0,.slice none 0 0]) ?_ 1 _ rfl;(with_reducible repeat (first|refine kN ?_ _|refine kD ?_|refine kA ?_ _));refine blk_put (cs:=#[.bool false,.int .i64 0,.slice none 0 0]) ?_ 0 _ rfl;(with_reducible repeat (first|refine kN ?_ _|refine kD ?_|refine kA ?_ _));exact BK188.out) hb);have n5_:=Am (below_step (by repeat (first|(with_reducible first|exact HB.out|apply bA|apply bN|apply bD|refine bS ?_ GE182.out|refine bS ?_ GE188.out)|exact HB.out)) hb);clear HO181;clear HO187;clear BK182;clear BK188;clear HB;have HO181:=n0_;have HO187:=n1_;have HO193:=n2_;have BK182:=n3_;have BK188:=n4_;have HB:=n5_;clear n0_ n1_ n2_ n3_ n4_ n5_;(try clear hb);(try clear hb2);(try clear hk);(try clear hi);(try clear ho0))|((with_reducible refine gate_dst (N:=8) rfl ?_);refine box_event ?hg (N:=8) ?hd (cs:=#[.bool false,.int .i64 0,.slice none 0 0]) (t:=41) ?hr ?_;(case hd => rfl);(case hg => rfl);(case hr => first|(go_simp;done)|(go_simp;rfl));intro gb194 hg w21 hbox hb;have n0_:=Am (Kd.R_below (by (with_reducible repeat (first|apply Kd.R_alloc|apply Kd.R_drewN|apply Kd.R_drew));exact HO181.out) hb);have n1_:=Am (Kd.R_below (by (with_reducible repeat (first|apply Kd.R_alloc|apply Kd.R_drewN|apply Kd.R_drew));exact HO187.out) hb);have n2_:=Am (Kd.R_below (by (with_reducible repeat (first|apply Kd.R_alloc|apply Kd.R_drewN|apply Kd.R_drew));exact HO193.out) hb);have n3_:=Am (blk_below (g:=gb182) (o:=.cells #[.slice Ao11 y179.length co11,.slice none 0 0,.int .i64 0,.int .i64 (wrap64 (1 + (Int.tmod (wrap64 (t176 * 2)) 400))),.int .i64 0] 26 (0,0)) (by (with_reducible repeat (first|refine kN ?_ _|refine kD ?_|refine kA ?_ _));exact BK182.out) hb);have n4_:=Am (blk_below (g:=gb188) (o:=.cells #[.bool t183,.int .i64 t184,.slice Ao18 t185.length co18] 41 (0,0)) (by (with_reducible repeat (first|refine kN ?_ _|refine kD ?_|refine kA ?_ _));exact BK188.out) hb);have n5_:=Am (below_step (by repeat (first|(with_reducible first|exact HB.out|apply bA|apply bN|apply bD|refine bS ?_ GE182.out|refine bS ?_ GE188.out)|exact HB.out)) hb);have n6_:=Am (hbox);have n7_:=Am ((by rw [hg];exact (below_size (by repeat (first|(with_reducible first|exact HB.out|apply bA|apply bN|apply bD|refine bS ?_ GE182.out|refine bS ?_ GE188.out)|exact HB.out))) : w.heap.size ≤ gb194));have n8_:=Am ((by rw [hg];exact (below_size (by repeat (first|(with_reducible first|exact HB.out|apply bA|apply bN|apply bD|refine bS ?_ GE182.out|refine bS ?_ GE188.out)|exact HB.out))) : w.heap.size ≤ gb194));have n9_:=Am ((by rw [hg];exact Nat.ne_of_lt (blk_lt (g:=gb182) (o:=.cells #[.slice Ao11 y179.length co11,.slice none 0 0,.int .i64 0,.int .i64 (wrap64 (1 + (Int.tmod (wrap64 (t176 * 2)) 400))),.int .i64 0] 26 (0,0)) (by (with_reducible repeat (first|refine kN ?_ _|refine kD ?_|refine kA ?_ _));exact BK182.out)) : gb182 ≠ gb194));have n10_:=Am ((by rw [hg];exact Nat.ne_of_gt (blk_lt (g:=gb182) (o:=.cells #[.slice Ao11 y179.length co11,.slice none 0 0,.int .i64 0,.int .i64 (wrap64 (1 + (Int.tmod (wrap64 (t176 * 2)) 400))),.int .i64 0] 26 (0,0)) (by (with_reducible repeat (first|refine kN ?_ _|refine kD ?_|refine kA ?_ _));exact BK182.out)) : gb194 ≠ gb182));have n11_:=Am ((by rw [hg];exact Nat.ne_of_lt (blk_lt (g:=gb188) (o:=.cells #[.bool t183,.int .i64 t184,.slice Ao18 t185.length co18] 41 (0,0)) (by (with_reducible repeat (first|refine kN ?_ _|refine kD ?_|refine kA ?_ _));exact BK188.out)) : gb188 ≠ gb194));have n12_:=Am ((by rw [hg];exact Nat.ne_of_gt (blk_lt (g:=gb188) (o:=.cells #[.bool t183,.int .i64 t184,.slice Ao18 t185.length co18] 41 (0,0)) (by (with_reducible repeat (first|refine kN ?_ _|refine kD ?_|refine kA ?_ _));exact BK188.out)) : gb194 ≠ gb188));clear HO181;clear HO187;clear HO193;clear BK182;clear BK188;clear HB;have HO181:=n0_;have HO187:=n1_;have HO193:=n2_;have BK182:=n3_;have BK188:=n4_;have HB:=n5_;have BK194:=n6_;have GW194:=n7_;have GE194:=n8_;have NB182_194:=n9_;have NB194_182:=n10_;have NB188_194:=n11_;have NB194_188:=n12_;clear n0_ n1_ n2_ n3_ n4_ n5_ n6_ n7_ n8_ n9_ n10_ n11_ n12_;clear hb hbox hg;have hnb22:=NB194_182.out;have hnc22:=NB182_194.out;have hnb23:=NB194_188.out;have hnc23:=NB188_194.out;have hcz24_0 : w21.cell? ⟨gb194,0,none⟩ = some (.bool false):=(kC BK194.out 0).trans rfl;have hcz24_1 : w21.cell? ⟨gb194,1,none⟩ = some (.int .i64 0):=(kC BK194.out 1).trans rfl;have hcz24_2 : w21.cell? ⟨gb194,2,none⟩ = some (.slice none 0 0):=(kC BK194.out 2).trans rfl;have hfz24_0:=kF BK194.out 0;have hfz24_1:=kF BK194.out 1;have hfz24_2:=kF BK194.out 2;obtain ⟨Ao25,co25,eo25⟩:=Kd.R_slice HO193.out;subst eo25))
  (try simp only [Act.put,List.setIfInBounds_toArray,List.set_cons_zero,List.set_cons_succ])
  go_cut [63] (fun v63 wc => ∃ (kq : Nat) (x63_7 : Bool),v63 = .bool x63_7∧As (laws_FnEven.j0 kq (wrap64 (1 + (Int.tmod (wrap64 (t176 * 2)) 400))) (wrap64 (1 + (Int.tmod t177 9))) x63_7 y179 0 (wrap64 (1 + (Int.tmod (wrap64 (t176 * 2)) 400))) 0 t183 t184 t185 = some r)∧As (kq ≤ k)∧As (Kd.R k39 39 wc w.heap.size (fun _ => True) (.slice Ao11 y179.length co11) y179)∧As (Kd.R (Kd.int .i64) 3 wc w.heap.size (fun k_ => some k_ ≠ ((.slice Ao25 t191.length co25) : Value).ownBlock) (.slice Ao18 t185.length co18) t185)∧As (Kd.R (Kd.int .i64) 3 wc w.heap.size (fun k_ => some k_ ≠ ((.slice Ao18 t185.length co18) : Value).ownBlock) (.slice Ao25 t191.length co25) t191)∧As (wc.heap[gb182]? = some (.cells #[(.slice Ao11 y179.length co11),(.slice none 0 0),.int .i64 0,.int .i64 (wrap64 (1 + (Int.tmod (wrap64 (t176 * 2)) 400))),.int .i64 0] 26 (0,0)))∧As (wc.heap[gb188]? = some (.cells #[.bool t183,.int .i64 t184,(.slice Ao18 t185.length co18)] 41 (0,0)))∧As (wc.heap[gb194]? = some (.cells #[.bool t189,.int .i64 t190,(.slice Ao25 t191.length co25)] 41 (0,0)))∧As (Below w.heap.size w wc))
  case first =>
   have H:=HC8.out
   clear HC8
   by_cases c26 : t183 = true
   ·subst c26
    have H1 : (if t189 = true then (if t190 > t184 then (laws_FnEven.j0 k (wrap64 (1 + (Int.tmod (wrap64 (t176 * 2)) 400))) (wrap64 (1 + (Int.tmod t177 9))) true y179 0 (wrap64 (1 + (Int.tmod (wrap64 (t176 * 2)) 400))) 0 true t184 t185) else ((spec_RunOk.f k y179 ([] : List (S45)) 0 (wrap64 (1 + (Int.tmod (wrap64 (t176 * 2)) 400))) 0 (wrap64 (1 + (Int.tmod t177 9))) 0 0 t185).bind fun t195 => (laws_FnEven.j0 k (wrap64 (1 + (Int.tmod (wrap64 (t176 * 2)) 400))) (wrap64 (1 + (Int.tmod t177 9))) (!t195) y179 0 (wrap64 (1 + (Int.tmod (wrap64 (t176 * 2)) 400))) 0 true t184 t185))) else (laws_FnEven.j0 k (wrap64 (1 + (Int.tmod (wrap64 (t176 * 2)) 400))) (wrap64 (1 + (Int.tmod t177 9))) true y179 0 (wrap64 (1 + (Int.tmod (wrap64 (t176 * 2)) 400))) 0 true t184 t185)) = some r:=by rw [if_pos rfl] at H;exact H
    clear H
    have H:=H1
    clear H1
    by_cases c27 : t189 = true
    ·subst c27
     have H1 : (if t190 > t184 then (laws_FnEven.j0 k (wrap64 (1 + (Int.tmod (wrap64 (t176 * 2)) 400))) (wrap64 (1 + (Int.tmod t177 9))) true y179 0 (wrap64 (1 + (Int.tmod (wrap64 (t176 * 2)) 400))) 0 true t184 t185) else ((spec_RunOk.f k y179 ([] : List (S45)) 0 (wrap64 (1 + (Int.tmod (wrap64 (t176 * 2)) 400))) 0 (wrap64 (1 + (Int.tmod t177 9))) 0 0 t185).bind fun t195 => (laws_FnEven.j0 k (wrap64 (1 + (Int.tmod (wrap64 (t176 * 2)) 400))) (wrap64 (1 + (Int.tmod t177 9))) (!t195) y179 0 (wrap64 (1 + (Int.tmod (wrap64 (t176 * 2)) 400))) 0 true t184 t185))) = some r:=by rw [if_pos rfl] at H;exact H
     clear H
     have H:=H1
     clear H1
     by_cases c28 : t190 > t184
     ·rw [if_pos c28] at H
      have c28b0 : decide (t184 < t190) = true:=decide_eq_true c28
      clear c28
      (first|rw [c28b0]|(simp only [i64_w,i32_w];rw [c28b0])|skip)
      exact absurd H (by rw [hrt.out];apply laws_FnEven.j0_no)
     ·rw [if_neg c28] at H
      have c28b0 : decide (t184 < t190) = false:=decide_eq_false c28
      clear c28
      (first|rw [c28b0]|(simp only [i64_w,i32_w];rw [c28b0])|skip)
      replace H:=Option.bind_eq_some_iff.mp H
      obtain ⟨t195,A290,H⟩:=H
      replace H : (laws_FnEven.j0 k (wrap64 (1 + (Int.tmod (wrap64 (t176 * 2)) 400))) (wrap64 (1 + (Int.tmod t177 9))) (!t195) y179 0 (wrap64 (1 + (Int.tmod (wrap64 (t176 * 2)) 400))) 0 true t184 t185) = some r:=H
      have A29:=Am A290
      clear A290
      have H':=Am H
      clear H
      have hnb30:=NB188_182.out
      have hnc30:=NB182_188.out
      have hnb31:=NB188_194.out
      have hnc31:=NB194_188.out
      have hcz32_0 : w21.cell? ⟨gb188,0,none⟩ = some (.bool true):=(kC BK188.out 0).trans rfl
      have hcz32_1 : w21.cell? ⟨gb188,1,none⟩ = some (.int .i64 t184):=(kC BK188.out 1).trans rfl
      have hcz32_2 : w21.cell? ⟨gb188,2,none⟩ = some (.slice Ao18 t185.length co18):=(kC BK188.out 2).trans rfl
      have hfz32_0:=kF BK188.out 0
      have hfz32_1:=kF BK188.out 1
      have hfz32_2:=kF BK188.out 2
      have hnb33:=NB194_182.out
      have hnc33:=NB182_194.out
      have hcz34_0 : w21.cell? ⟨gb194,0,none⟩ = some (.bool false):=(kC BK194.out 0).trans rfl
      have hcz34_1 : w21.cell? ⟨gb194,1,none⟩ = some (.int .i64 0):=(kC BK194.out 1).trans rfl
      have hcz34_2 : w21.cell? ⟨gb194,2,none⟩ = some (.slice none 0 0):=(kC BK194.out 2).trans rfl
      have hfz34_0:=kF BK194.out 0
      have hfz34_1:=kF BK194.out 1
      have hfz34_2:=kF BK194.out 2
      have hcz35_0 : w21.cell? ⟨gb182,0,none⟩ = some (.slice Ao11 y179.length co11):=(kC BK182.out 0).trans rfl
      have hcz35_1 : w21.cell? ⟨gb182,1,none⟩ = some (.slice none 0 0):=(kC BK182.out 1).trans rfl
      have hcz35_2 : w21.cell? ⟨gb182,2,none⟩ = some (.int .i64 0):=(kC BK182.out 2).trans rfl
      have hcz35_3 : w21.cell? ⟨gb182,3,none⟩ = some (.int .i64 (wrap64 (1 + (Int.tmod (wrap64 (t176 * 2)) 400)))):=(kC BK182.out 3).trans rfl
      have hcz35_4 : w21.cell? ⟨gb182,4,none⟩ = some (.int .i64 0):=(kC BK182.out 4).trans rfl
      have hfz35_0:=kF BK182.out 0
      have hfz35_1:=kF BK182.out 1
      have hfz35_2:=kF BK182.out 2
      have hfz35_3:=kF BK182.out 3
      have hfz35_4:=kF BK182.out 4
      go_wp2_with (first|(go_at_call 17;(refine (spec_RunOk.calls k _ _ y179 _ _ ([] : List (S45)) 0 (wrap64 (1 + (Int.tmod (wrap64 (t176 * 2)) 400))) 0 (wrap64 (1 + (Int.tmod t177 9))) 0 0 _ _ t185 t195 _ ?side1 ?side2 ?side3 ?side4 ?side5 ?side6 A29.out).mono ?_);(case side1 => refine (Kd.R_reads' (e:=39) (base:=w.heap.size) (ok:=fun k_ => True) (n:=y179.length) (c:=co11) ?_).2.2;exact (by (with_reducible repeat (first|apply Kd.R_alloc|apply Kd.R_drewN|apply Kd.R_drew));exact (Kd.R_mono (Kd.R_far (p:=⟨gb194,2,none⟩) (Kd.R_far (p:=⟨gb194,1,none⟩) (Kd.R_far (p:=⟨gb194,0,none⟩) (Kd.R_types HO181.out BK194.out (by decide)) (fun _ hk => hk.2) (.bool true)) (fun _ hk => hk.2) (.int .i64 t190)) (fun _ hk => hk.2) (.slice Ao25 t191.length co25)) (fun _ h_ => h_.1))));(case side2 => exact (Kd.R_reads' HO181.out).2.1);(case side3 => exact Kd.C_nil _ _);(case side4 => exact Nat.le_refl _);(case side5 => refine (Kd.R_reads' (e:=3) (base:=w.heap.size) (ok:=fun k_ => (True∧some k_ ≠ (.slice Ao25 t191.length co25 : Value).ownBlock)) (n:=t185.length) (c:=co18) ?_).2.2;exact (by (with_reducible repeat (first|apply Kd.R_alloc|apply Kd.R_drewN|apply Kd.R_drew));exact (Kd.R_mono (Kd.R_far (p:=⟨gb194,2,none⟩) (Kd.R_far (p:=⟨gb194,1,none⟩) (Kd.R_far (p:=⟨gb194,0,none⟩) (Kd.R_types HO187.out BK194.out (by decide)) (fun _ hk => hk.2) (.bool true)) (fun _ hk => hk.2) (.int .i64 t190)) (fun _ hk => hk.2) (.slice Ao25 t191.length co25)) (fun _ h_ => h_.1))));(case side6 => exact (Kd.R_reads' HO187.out).2.1);rintro e w36 ⟨rfl,hb⟩;have n0_:=Am (Kd.R_below (by (with_reducible repeat (first|apply Kd.R_alloc|apply Kd.R_drewN|apply Kd.R_drew));exact (Kd.R_mono (Kd.R_far (p:=⟨gb194,2,none⟩) (Kd.R_far (p:=⟨gb194,1,none⟩) (Kd.R_far (p:=⟨gb194,0,none⟩) (Kd.R_types HO181.out BK194.out (by decide)) (fun _ hk => hk.2) (.bool true)) (fun _ hk => hk.2) (.int .i64 t190)) (fun _ hk => hk.2) (.slice Ao25 t191.length co25)) (fun _ h_ => h_.1))) hb);have n1_:=Am (Kd.R_below (by (with_reducible repeat (first|apply Kd.R_alloc|apply Kd.R_drewN|apply Kd.R_drew));exact (Kd.R_mono (Kd.R_far (p:=⟨gb194,2,none⟩) (Kd.R_far (p:=⟨gb194,1,none⟩) (Kd.R_far (p:=⟨gb194,0,none⟩) (Kd.R_types HO187.out BK194.out (by decide)) (fun _ hk => hk.2) (.bool true)) (fun _ hk => hk.2) (.int .i64 t190)) (fun _ hk => hk.2) (.slice Ao25 t191.length co25)) (fun _ h_ => h_.1))) hb);have n2_:=Am (Kd.R_below (by (with_reducible repeat (first|apply Kd.R_alloc|apply Kd.R_drewN|apply Kd.R_drew));exact (Kd.R_mono (Kd.R_far (p:=⟨gb194,2,none⟩) (Kd.R_far (p:=⟨gb194,1,none⟩) (Kd.R_far (p:=⟨gb194,0,none⟩) (Kd.R_types HO193.out BK194.out (by decide)) (fun _ hk => hk.2) (.bool true)) (fun _ hk => hk.2) (.int .i64 t190)) (fun _ hk => hk.2) (.slice Ao25 t191.length co25)) (fun _ h_ => h_.1))) hb);have n3_:=Am (blk_below (g:=gb182) (o:=.cells #[.slice Ao11 y179.length co11,.slice none 0 0,.int .i64 0,.int .i64 (wrap64 (1 + (Int.tmod (wrap64 (t176 * 2)) 400))),.int .i64 0] 26 (0,0)) (by (with_reducible repeat (first|refine kN ?_ _|refine kD ?_|refine kA ?_ _));refine blk_far ?_ NB182_194.out _;(with_reducible repeat (first|refine kN ?_ _|refine kD ?_|refine kA ?_ _));refine blk_far ?_ NB182_194.out _;(with_reducible repeat (first|refine kN ?_ _|refine kD ?_|refine kA ?_ _));refine blk_far ?_ NB182_194.out _;(with_reducible repeat (first|refine kN ?_ _|refine kD ?_|refine kA ?_ _));exact BK182.out) hb);have n4_:=Am (blk_below (g:=gb188) (o:=.cells #[.bool true,.int .i64 t184,.slice Ao18 t185.length co18] 41 (0,0)) (by (with_reducible repeat (first|refine kN ?_ _|refine kD ?_|refine kA ?_ _));refine blk_far ?_ NB188_194.out _;(with_reducible repeat (first|refine kN ?_ _|refine kD ?_|refine kA ?_ _));refine blk_far ?_ NB188_194.out _;(with_reducible repeat (first|refine kN ?_ _|refine kD ?_|refine kA ?_ _));refine blk_far ?_ NB188_194.out _;(with_reducible repeat (first|refine kN ?_ _|refine kD ?_|refine kA ?_ _));exact BK188.out) hb);have n5_:=Am (blk_below (g:=gb194) (o:=.cells #[.bool true,.int .i64 t190,.slice Ao25 t191.length co25] 41 (0,0)) (by (with_reducible repeat (first|refine kN ?_ _|refine kD ?_|refine kA ?_ _));refine blk_put (cs:=#[.bool true,.int .i64 t190,.slice none 0 0]) ?_ 2 _ rfl;(with_reducible repeat (first|refine kN ?_ _|refine kD ?_|refine kA ?_ _));refine blk_put (cs:=#[.bool true,.int .i64 0,.slice none 0 0]) ?_ 1 _ rfl;(with_reducible repeat (first|refine kN ?_ _|refine kD ?_|refine kA ?_ _));refine blk_put (cs:=#[.bool false,.int .i64 0,.slice none 0 0]) ?_ 0 _ rfl;(with_reducible repeat (first|refine kN ?_ _|refine kD ?_|refine kA ?_ _));exact BK194.out) hb);have n6_:=Am (below_step (by repeat (first|(with_reducible first|exact HB.out|apply bA|apply bN|apply bD|refine bS ?_ GE182.out|refine bS ?_ GE188.out|refine bS ?_ GE194.out)|exact HB.out)) hb);clear HO181;clear HO187;clear HO193;clear BK182;clear BK188;clear BK194;clear HB;have HO181:=n0_;have HO187:=n1_;have HO193:=n2_;have BK182:=n3_;have BK188:=n4_;have BK194:=n5_;have HB:=n6_;clear n0_ n1_ n2_ n3_ n4_ n5_ n6_;(try clear hb);(try clear hb2);(try clear hk);(try clear hi)))
      go_meet
      case rel => exact ⟨_,(!t195),(by first|rfl|(simp;done)|(simp [*];done)),H',⟨by first|omega|exact Nat.le_refl _⟩,⟨by (with_reducible repeat (first|apply Kd.R_alloc|apply Kd.R_drewN|apply Kd.R_drew));exact HO181.out⟩,⟨by (with_reducible repeat (first|apply Kd.R_alloc|apply Kd.R_drewN|apply Kd.R_drew));exact Kd.R_mono HO187.out (fun _ hk => hk.2)⟩,⟨by (with_reducible repeat (first|apply Kd.R_alloc|apply Kd.R_drewN|apply Kd.R_drew));exact Kd.R_mono HO193.out (fun _ hk => hk.2)⟩,⟨by (with_reducible repeat (first|refine kN ?_ _|refine kD ?_|refine kA ?_ _));exact BK182.out⟩,⟨by (with_reducible repeat (first|refine kN ?_ _|refine kD ?_|refine kA ?_ _));exact BK188.out⟩,⟨by (with_reducible repeat (first|refine kN ?_ _|refine kD ?_|refine kA ?_ _));exact BK194.out⟩,⟨by repeat (first|(with_reducible first|exact HB.out|apply bA|apply bN|apply bD|refine bS ?_ GE182.out|refine bS ?_ GE188.out|refine bS ?_ GE194.out)|exact HB.out)⟩⟩
    ·replace c27:=Bool.eq_false_iff.mpr c27
     subst c27
     have H1 : (laws_FnEven.j0 k (wrap64 (1 + (Int.tmod (wrap64 (t176 * 2)) 400))) (wrap64 (1 + (Int.tmod t177 9))) true y179 0 (wrap64 (1 + (Int.tmod (wrap64 (t176 * 2)) 400))) 0 true t184 t185) = some r:=by rw [if_neg (show ¬ (false = true) by decide)] at H;exact H
     clear H
     have H:=H1
     clear H1
     exact absurd H (by rw [hrt.out];apply laws_FnEven.j0_no)
   ·replace c26:=Bool.eq_false_iff.mpr c26
    subst c26
    have H1 : (laws_FnEven.j0 k (wrap64 (1 + (Int.tmod (wrap64 (t176 * 2)) 400))) (wrap64 (1 + (Int.tmod t177 9))) true y179 0 (wrap64 (1 + (Int.tmod (wrap64 (t176 * 2)) 400))) 0 false t184 t185) = some r:=by rw [if_neg (show ¬ (false = true) by decide)] at H;exact H
    clear H
    have H:=H1
    clear H1
    exact absurd H (by rw [hrt.out];apply laws_FnEven.j0_no)
  case rest =>
   clear HC8
   try clear c1
   try clear c2
   try clear c2b0
   try clear c2b1
   try clear p2
   try clear c3
   try clear c4
   try clear p6
   try clear c15
   try clear c16
   try clear c22
   try clear c23
   try clear c26
   try clear c27
   try clear c28
   try clear c28b0
   try clear c30
   try clear c31
   try clear c33
   try clear hcz13_0
   try clear hcz13_1
   try clear hcz13_2
   try clear hcz13_3
   try clear hcz13_4
   try clear hcz17_0
   try clear hcz17_1
   try clear hcz17_2
   try clear hcz19_0
   try clear hcz19_1
   try clear hcz19_2
   try clear hcz19_3
   try clear hcz19_4
   try clear hcz24_0
   try clear hcz24_1
   try clear hcz24_2
   try clear hcz32_0
   try clear hcz32_1
   try clear hcz32_2
   try clear hcz34_0
   try clear hcz34_1
   try clear hcz34_2
   try clear hcz35_0
   try clear hcz35_1
   try clear hcz35_2
   try clear hcz35_3
   try clear hcz35_4
   try clear hfz13_0
   try clear hfz13_1
   try clear hfz13_2
   try clear hfz13_3
   try clear hfz13_4
   try clear hfz17_0
   try clear hfz17_1
   try clear hfz17_2
   try clear hfz19_0
   try clear hfz19_1
   try clear hfz19_2
   try clear hfz19_3
   try clear hfz19_4
   try clear hfz24_0
   try clear hfz24_1
   try clear hfz24_2
   try clear hfz32_0
   try clear hfz32_1
   try clear hfz32_2
   try clear hfz34_0
   try clear hfz34_1
   try clear hfz34_2
   try clear hfz35_0
   try clear hfz35_1
   try clear hfz35_2
   try clear hfz35_3
   try clear hfz35_4
   obtain ⟨kq,x63_7,rfl,HA,HJ7,HO_183000,HO_189002,HO_195002,BK182,BK188,BK194,HB⟩:=hcut
   cases kq with
   | zero => exact absurd HA.out (by simp [laws_FnEven.j0])
   | succ kj7 =>
    have H:=HA.out
    clear HA
    simp only [laws_FnEven.j0] at H
    by_cases c37 : x63_7 = true
    ·subst c37
     have H1 : (some false) = some r:=by rw [if_pos rfl] at H;exact H
     clear H
     have H:=H1
     clear H1
     exact absurd H (by rw [hrt.out];simp)
    ·replace c37:=Bool.eq_false_iff.mpr c37
     subst c37
     have H1 : (laws_FnEven.l0 kj7 (wrap64 (1 + (Int.tmod (wrap64 (t176 * 2)) 400))) (wrap64 (1 + (Int.tmod t177 9))) 0 t185 (t185.length : Int) 0 y179 0 (wrap64 (1 + (Int.tmod (wrap64 (t176 * 2)) 400))) 0 t183 t184 t185) = some r:=by rw [if_neg (show ¬ (false = true) by decide)] at H;exact H
     clear H
     have H:=H1
     clear H1
     have H':=Am H
     clear H
     have hnb38:=NB188_182.out
     have hnc38:=NB182_188.out
     have hnb39:=NB188_194.out
     have hnc39:=NB194_188.out
     have hcz40_0 : wc.cell? ⟨gb188,0,none⟩ = some (.bool t183):=(kC BK188.out 0).trans rfl
     have hcz40_1 : wc.cell? ⟨gb188,1,none⟩ = some (.int .i64 t184):=(kC BK188.out 1).trans rfl
     have hcz40_2 : wc.cell? ⟨gb188,2,none⟩ = some (.slice Ao18 t185.length co18):=(kC BK188.out 2).trans rfl
     have hfz40_0:=kF BK188.out 0
     have hfz40_1:=kF BK188.out 1
     have hfz40_2:=kF BK188.out 2
     go_wp2
     go_loopg [9,67] kj7 (fun kq v9 v67 w' => ∃ (x9_2 : Int) (x67_2 : Int),v9 = .int .i64 x9_2∧v67 = .int .i64 x67_2∧As (laws_FnEven.l0 kq (wrap64 (1 + (Int.tmod (wrap64 (t176 * 2)) 400))) (wrap64 (1 + (Int.tmod t177 9))) x9_2 t185 (t185.length : Int) x67_2 y179 0 (wrap64 (1 + (Int.tmod (wrap64 (t176 * 2)) 400))) 0 t183 t184 t185 = some r)∧As (kq ≤ kj7)∧As (Kd.R (Kd.int .i64) 3 w' w.heap.size (fun k_ => some k_ ≠ ((.slice Ao25 t191.length co25) : Value).ownBlock) (.slice Ao18 t185.length co18) t185)∧As (Kd.R k39 39 w' w.heap.size (fun _ => True) (.slice Ao11 y179.length co11) y179)∧As (Kd.R (Kd.int .i64) 3 w' w.heap.size (fun k_ => some k_ ≠ ((.slice Ao25 t191.length co25) : Value).ownBlock) (.slice Ao18 t185.length co18) t185)∧As (Kd.R (Kd.int .i64) 3 w' w.heap.size (fun k_ => some k_ ≠ ((.slice Ao18 t185.length co18) : Value).ownBlock∧some k_ ≠ ((.slice Ao18 t185.length co18) : Value).ownBlock) (.slice Ao25 t191.length co25) t191)∧As (w'.heap[gb182]? = some (.cells #[(.slice Ao11 y179.length co11),(.slice none 0 0),.int .i64 0,.int .i64 (wrap64 (1 + (Int.tmod (wrap64 (t176 * 2)) 400))),.int .i64 0] 26 (0,0)))∧As (w'.heap[gb188]? = some (.cells #[.bool t183,.int .i64 t184,(.slice Ao18 t185.length co18)] 41 (0,0)))∧As (w'.heap[gb194]? = some (.cells #[.bool t189,.int .i64 t190,(.slice Ao25 t191.length co25)] 41 (0,0)))∧As (Below w.heap.size w w'))
     case atStart => exact ⟨(0),(0),(by first|rfl|(simp;done)|(simp [*];done)),(by first|rfl|(simp;done)|(simp [*];done)),H',⟨Nat.le_refl _⟩,⟨by (with_reducible repeat (first|apply Kd.R_alloc|apply Kd.R_drewN|apply Kd.R_drew));exact HO_189002.out⟩,⟨by (with_reducible repeat (first|apply Kd.R_alloc|apply Kd.R_drewN|apply Kd.R_drew));exact HO_183000.out⟩,⟨by (with_reducible repeat (first|apply Kd.R_alloc|apply Kd.R_drewN|apply Kd.R_drew));exact HO_189002.out⟩,⟨by (with_reducible repeat (first|apply Kd.R_alloc|apply Kd.R_drewN|apply Kd.R_drew));exact Kd.R_mono HO_195002.out (fun _ hk => ⟨hk,hk⟩)⟩,⟨by (with_reducible repeat (first|refine kN ?_ _|refine kD ?_|refine kA ?_ _));exact BK182.out⟩,⟨by (with_reducible repeat (first|refine kN ?_ _|refine kD ?_|refine kA ?_ _));exact BK188.out⟩,⟨by (with_reducible repeat (first|refine kN ?_ _|refine kD ?_|refine kA ?_ _));exact BK194.out⟩,⟨by repeat (first|(with_reducible first|exact HB.out|apply bA|apply bN|apply bD|refine bS ?_ GE182.out|refine bS ?_ GE188.out|refine bS ?_ GE194.out)|exact HB.out)⟩⟩
     case round =>
      clear H'
      try clear c1
      try clear c2
      try clear c2b0
      try clear c2b1
      try clear p2
      try clear c3
      try clear c4
      try clear p6
      try clear c15
      try clear c16
      try clear c22
      try clear c23
      try clear c26
      try clear c27
      try clear c28
      try clear c28b0
      try clear c30
      try clear c31
      try clear c33
      try clear c37
      try clear c38
      try clear c39
      try clear hcz13_0
      try clear hcz13_1
      try clear hcz13_2
      try clear hcz13_3
      try clear hcz13_4
      try clear hcz17_0
      try clear hcz17_1
      try clear hcz17_2
      try clear hcz19_0
      try clear hcz19_1
      try clear hcz19_2
      try clear hcz19_3
      try clear hcz19_4
      try clear hcz24_0
      try clear hcz24_1
      try clear hcz24_2
      try clear hcz32_0
      try clear hcz32_1
      try clear hcz32_2
      try clear hcz34_0
      try clear hcz34_1
      try clear hcz34_2
      try clear hcz35_0
      try clear hcz35_1
      try clear hcz35_2
      try clear hcz35_3
      try clear hcz35_4
      try clear hcz40_0
      try clear hcz40_1
      try clear hcz40_2
      try clear hfz13_0
      try clear hfz13_1
      try clear hfz13_2
      try clear hfz13_3
      try clear hfz13_4
      try clear hfz17_0
      try clear hfz17_1
      try clear hfz17_2
      try clear hfz19_0
      try clear hfz19_1
      try clear hfz19_2
      try clear hfz19_3
      try clear hfz19_4
      try clear hfz24_0
      try clear hfz24_1
      try clear hfz24_2
      try clear hfz32_0
      try clear hfz32_1
      try clear hfz32_2
      try clear hfz34_0
      try clear hfz34_1
      try clear hfz34_2
      try clear hfz35_0
      try clear hfz35_1
      try clear hfz35_2
      try clear hfz35_3
      try clear hfz35_4
      try clear hfz40_0
      try clear hfz40_1
      try clear hfz40_2
      try clear p2
      try clear p6
      obtain ⟨x9_2,x67_2,rfl,rfl,HA,HK2,HO_65,HO_183000,HO_189002,HO_195002,BK182,BK188,BK194,HB⟩:=hrel
      cases gk with
      | zero => exact absurd HA.out (by simp [laws_FnEven.l0])
      | succ k2 =>
       have H:=HA.out
       clear HA
       simp only [laws_FnEven.l0] at H
       by_cases c41 : x67_2 < (t185.length : Int)
       ·rw [if_pos c41] at H
        have c41b0 : decide (x67_2 < (t185.length : Int)) = true:=decide_eq_true c41
        clear c41
        by_cases c42 : 0 ≤ x67_2
        ·rw [if_pos c42] at H
         have c42b0 : decide (0 ≤ x67_2) = true:=decide_eq_true c42
         clear c42
         by_cases c43 : x67_2 < (t185.length : Int)
         ·rw [if_pos c43] at H
          have c43b0 : decide (x67_2 < (t185.length : Int)) = true:=decide_eq_true c43
          clear c43
          have H':=Am H
          clear H
          have p196 : 0 ≤ (x67_2 : Int):=of_decide_eq_true (by first|(with_reducible assumption)|assumption)
          have q196 : x67_2 < (t185.length : Int):=of_decide_eq_true (by first|(with_reducible assumption)|assumption)
          obtain ⟨ad196,e196,hx196_0⟩:=Kd.at_int (Kd.R_reads' HO_65.out).2.2 x67_2 p196 q196
          cases e196
          replace p196:=eq_true p196
          replace q196:=eq_true q196
          go_wp2
          go_roundg k2
          case measure => have:=HJ7.out;have:=HK2.out;omega
          case rel => exact ⟨(wrap64 (x9_2 + (rd t185 x67_2))),(wrap64 (x67_2 + 1)),(by first|rfl|(simp;done)|(simp [*];done)),(by first|rfl|(simp;done)|(simp [*];done)),H',⟨by have:=HJ7.out;have:=HK2.out;omega⟩,⟨by (with_reducible repeat (first|apply Kd.R_alloc|apply Kd.R_drewN|apply Kd.R_drew));exact HO_65.out⟩,⟨by (with_reducible repeat (first|apply Kd.R_alloc|apply Kd.R_drewN|apply Kd.R_drew));exact HO_183000.out⟩,⟨by (with_reducible repeat (first|apply Kd.R_alloc|apply Kd.R_drewN|apply Kd.R_drew));exact HO_189002.out⟩,⟨by (with_reducible repeat (first|apply Kd.R_alloc|apply Kd.R_drewN|apply Kd.R_drew));exact HO_195002.out⟩,⟨by (with_reducible repeat (first|refine kN ?_ _|refine kD ?_|refine kA ?_ _));exact BK182.out⟩,⟨by (with_reducible repeat (first|refine kN ?_ _|refine kD ?_|refine kA ?_ _));exact BK188.out⟩,⟨by (with_reducible repeat (first|refine kN ?_ _|refine kD ?_|refine kA ?_ _));exact BK194.out⟩,⟨by repeat (first|(with_reducible first|exact HB.out|apply bA|apply bN|apply bD|refine bS ?_ GE182.out|refine bS ?_ GE188.out|refine bS ?_ GE194.out)|exact HB.out)⟩⟩
         ·rw [if_neg c43] at H
          exact absurd H (by simp)
        ·rw [if_neg c42] at H
         exact absurd H (by simp)
       ·rw [if_neg c41] at H
        have c41b0 : decide (x67_2 < (t185.length : Int)) = false:=decide_eq_false c41
        clear c41
        by_cases c44 : x9_2 = (wrap64 (1 + (Int.tmod (wrap64 (t176 * 2)) 400)))
        ·rw [if_pos c44] at H
         have c44b0 : (x9_2 == (wrap64 (1 + (Int.tmod (wrap64 (t176 * 2)) 400)))) = true:=beq_iff_eq.mpr c44
         have c44b1 : (x9_2 != (wrap64 (1 + (Int.tmod (wrap64 (t176 * 2)) 400)))) = false:=bne_eq_false_iff_eq.mpr c44
         clear c44
         replace H:=Option.bind_eq_some_iff.mp H
         obtain ⟨⟨t197,t198,t199⟩,A450,H⟩:=H
         replace H : (some (t184 == t198)) = some r:=H
         have A45:=Am A450
         clear A450
         obtain rfl:=Option.some.inj H
         try go_wp2
         have n0_:=Am (Kd.R_drew HO_65.out)
         have n1_:=Am (Kd.R_drew HO_183000.out)
         have n2_:=Am (Kd.R_drew HO_189002.out)
         have n3_:=Am (Kd.R_drew HO_195002.out)
         have n4_:=Am (kD BK182.out)
         have n5_:=Am (kD BK188.out)
         have n6_:=Am (kD BK194.out)
         have n7_:=Am (bD HB.out)
         clear HO_65
         clear HO_183000
         clear HO_189002
         clear HO_195002
         clear BK182
         clear BK188
         clear BK194
         clear HB
         have HO_65:=n0_
         have HO_183000:=n1_
         have HO_189002:=n2_
         have HO_195002:=n3_
         have BK182:=n4_
         have BK188:=n5_
         have BK194:=n6_
         have HB:=n7_
         clear n0_ n1_ n2_ n3_ n4_ n5_ n6_ n7_
         refine start_ (n:=13) (S:=fun w' => w'.cell? ⟨gb188,0,none⟩ = some (.bool t183)∧w'.cell? ⟨gb188,1,none⟩ = some (.int .i64 t184)∧w'.cell? ⟨gb188,2,none⟩ = some (.slice Ao18 t185.length co18)∧w'.cell? ⟨gb182,0,none⟩ = some (.slice Ao11 y179.length co11)∧w'.cell? ⟨gb182,1,none⟩ = some (.slice none 0 0)∧w'.cell? ⟨gb182,2,none⟩ = some (.int .i64 0)∧w'.cell? ⟨gb182,3,none⟩ = some (.int .i64 (wrap64 (1 + (Int.tmod (wrap64 (t176 * 2)) 400))))∧w'.cell? ⟨gb182,4,none⟩ = some (.int .i64 0)) (ds:=[]) #[false,false,false,false,false,false,false,false,false,false,false,false,false] (by kernel_rfl) rfl rfl ⟨(kC BK188.out 0).trans rfl,(kC BK188.out 1).trans rfl,(kC BK188.out 2).trans rfl,(kC BK182.out 0).trans rfl,(kC BK182.out 1).trans rfl,(kC BK182.out 2).trans rfl,(kC BK182.out 3).trans rfl,(kC BK182.out 4).trans rfl⟩ (fun hHeld => ?_);refine with_tabW laws_FnEven.tab17 laws_FnEven.bits17 (fun HT_ HW_ => ?_)
         generalize wr.drew = w46 at HO_65 HO_183000 HO_189002 HO_195002 BK182 BK188 BK194 HB hHeld ⊢
         refine pure_ (i:=0) (N:=some 75) (v:=?_) (a':=?_) #[true,false,false,false,false,false,false,false,false,false,false,false,false] rfl rfl (any_of HT_.out (by kernel_rfl)) (fun _ _ _ h => h) (Or.inl ⟨by rfl,?_⟩) ?_ ?_
         rotate_left
         ·intro w'
          go_simp
          with_reducible rfl
         rotate_left
         ·simp only [Act.put,pS]
          rfl
         refine pure_ (i:=1) (N:=some 76) (v:=?_) (a':=?_) #[true,true,false,false,false,false,false,false,false,false,false,false,false] rfl rfl (any_of HT_.out (by kernel_rfl)) (fun _ _ _ h => h) (Or.inl ⟨by rfl,?_⟩) ?_ ?_
         rotate_left
         ·intro w'
          go_simp
          with_reducible rfl
         rotate_left
         ·simp only [Act.put,pS]
          rfl
         refine pure_ (i:=2) (N:=some 77) (v:=?_) (a':=?_) #[true,true,true,false,false,false,false,false,false,false,false,false,false] rfl rfl (any_of HT_.out (by kernel_rfl)) (fun _ _ _ h => h) (Or.inl ⟨by rfl,?_⟩) ?_ ?_
         rotate_left
         ·intro w'
          go_simp
          with_reducible rfl
         rotate_left
         ·simp only [Act.put,pS]
          rfl
         refine pure_ (i:=3) (N:=some 78) (v:=?_) (a':=?_) #[true,true,true,true,false,false,false,false,false,false,false,false,false] rfl rfl (any_of HT_.out (by kernel_rfl)) (fun _ _ _ h => h) (Or.inl ⟨by rfl,?_⟩) ?_ ?_
         rotate_left
         ·intro w'
          go_simp
          with_reducible rfl
         rotate_left
         ·simp only [Act.put,pS]
          rfl
         refine pure_ (i:=4) (N:=some 79) (v:=?_) (a':=?_) #[true,true,true,true,true,false,false,false,false,false,false,false,false] rfl rfl (any_of HT_.out (by kernel_rfl)) (fun _ _ _ h => h) (Or.inl ⟨by rfl,?_⟩) ?_ ?_
         rotate_left
         ·intro w'
          go_simp
          with_reducible rfl
         rotate_left
         ·simp only [Act.put,pS]
          rfl
         refine pure_ (i:=7) (N:=some 82) (v:=?_) (a':=?_) #[true,true,true,true,true,false,false,true,false,false,false,false,false] rfl rfl (any_of HT_.out (by kernel_rfl)) (fun _ _ _ h => h) (Or.inl ⟨by rfl,?_⟩) ?_ ?_
         rotate_left
         ·intro w'
          go_simp
          with_reducible rfl
         rotate_left
         ·simp only [Act.put,pS]
          rfl
         refine take_ (i:=5) (N:=some 80) (v:=?_) (a':=?_) #[true,true,true,true,true,true,false,true,false,false,false,false,false] rfl rfl (take_ofW HT_.out HW_.out (by kernel_rfl)) (fun _ _ _ h => h) (Or.inl ⟨by rfl,?_⟩) hHeld ?_ ?_
         rotate_left
         ·rintro w' ⟨s0,s1,s2,s3,s4,s5,s6,s7⟩
          go_simp
          with_reducible rfl
         rotate_left
         ·simp only [Act.put,pS]
          rfl
         refine take_ (i:=6) (N:=some 81) (v:=?_) (a':=?_) #[true,true,true,true,true,true,true,true,false,false,false,false,false] rfl rfl (take_ofW HT_.out HW_.out (by kernel_rfl)) (fun _ _ _ h => h) (Or.inl ⟨by rfl,?_⟩) hHeld ?_ ?_
         rotate_left
         ·rintro w' ⟨s0,s1,s2,s3,s4,s5,s6,s7⟩
          go_simp
          with_reducible rfl
         rotate_left
         ·simp only [Act.put,pS]
          rfl
         refine one_ (i:=8) (N:=some 83) #[true,true,true,true,true,true,true,true,true,false,false,false,false] rfl rfl (one_of HT_.out (by kernel_rfl)) (by decide) (fun K hK => ?_)
         refine goes_ Try.func18 (by kernel_rfl) rfl #[.agg #[.slice Ao11 y179.length co11,.slice none 0 0,.int .i64 0,.int .i64 (wrap64 (1 + (Int.tmod (wrap64 (t176 * 2)) 400))),.int .i64 0],.int .i64 (wrap64 (1 + (Int.tmod t177 9))),.int .i64 0,.int .i64 0] (by rfl) rfl rfl (by (try simp only [List.map_toArray,List.map_cons,List.map_nil]);first|done|rfl|(simp only [List.length_drop,List.length_take];rfl)) ?_
         refine (spec_Fastest.calls k2 _ _ y179 _ _ ([] : List (S45)) 0 (wrap64 (1 + (Int.tmod (wrap64 (t176 * 2)) 400))) 0 (wrap64 (1 + (Int.tmod t177 9))) 0 0 t197 t198 t199 _ ?side1 ?side2 ?side3 ?side4 A45.out).mono ?_
         (case side1 => repeat (first|exact (Kd.R_reads' HO_183000.out).2.2|(with_reducible refine Kd.C_alloc ?_ _)|(with_reducible refine Kd.C_drewN ?_ _)|(with_reducible refine Kd.C_drew ?_)))
         (case side2 => exact (Kd.R_reads' HO_183000.out).2.1)
         (case side3 => exact Kd.C_nil _ _)
         (case side4 => exact Nat.le_refl _)
         rintro e w47 ⟨v200,rfl,ho0,hb⟩
         obtain ⟨Aq_v200,cq_v200,eq_v200⟩:=Kd.R_slice ho0
         subst eq_v200
         refine ⟨_,rfl,?_⟩
         have n0_:=Am (Kd.R_elder' (by (with_reducible repeat (first|apply Kd.R_alloc|apply Kd.R_drewN|apply Kd.R_drew));exact HO_65.out) (Kd.R_base ho0) hb)
         have n1_:=Am (Kd.R_below (by (with_reducible repeat (first|apply Kd.R_alloc|apply Kd.R_drewN|apply Kd.R_drew));exact HO_183000.out) hb)
         have n2_:=Am (Kd.R_elder' (by (with_reducible repeat (first|apply Kd.R_alloc|apply Kd.R_drewN|apply Kd.R_drew));exact HO_189002.out) (Kd.R_base ho0) hb)
         have n3_:=Am (Kd.R_elder' (by (with_reducible repeat (first|apply Kd.R_alloc|apply Kd.R_drewN|apply Kd.R_drew));exact HO_195002.out) (Kd.R_base ho0) hb)
         have n4_:=Am (Kd.R_lower (Kd.R_new' (Kd.R_new' (Kd.R_new' ho0 (Kd.R_lt (by (with_reducible repeat (first|apply Kd.R_alloc|apply Kd.R_drewN|apply Kd.R_drew));exact HO_65.out))) (Kd.R_lt (by (with_reducible repeat (first|apply Kd.R_alloc|apply Kd.R_drewN|apply Kd.R_drew));exact HO_189002.out))) (Kd.R_lt (by (with_reducible repeat (first|apply Kd.R_alloc|apply Kd.R_drewN|apply Kd.R_drew));exact HO_195002.out))) (below_size (by repeat (first|(with_reducible first|exact HB.out|apply bA|apply bN|apply bD|refine bS ?_ GE182.out|refine bS ?_ GE188.out|refine bS ?_ GE194.out)|exact HB.out))))
         have n5_:=Am (blk_below (g:=gb182) (o:=.cells #[.slice Ao11 y179.length co11,.slice none 0 0,.int .i64 0,.int .i64 (wrap64 (1 + (Int.tmod (wrap64 (t176 * 2)) 400))),.int .i64 0] 26 (0,0)) (by (with_reducible repeat (first|refine kN ?_ _|refine kD ?_|refine kA ?_ _));exact BK182.out) hb)
         have n6_:=Am (blk_below (g:=gb188) (o:=.cells #[.bool t183,.int .i64 t184,.slice Ao18 t185.length co18] 41 (0,0)) (by (with_reducible repeat (first|refine kN ?_ _|refine kD ?_|refine kA ?_ _));exact BK188.out) hb)
         have n7_:=Am (blk_below (g:=gb194) (o:=.cells #[.bool t189,.int .i64 t190,.slice Ao25 t191.length co25] 41 (0,0)) (by (with_reducible repeat (first|refine kN ?_ _|refine kD ?_|refine kA ?_ _));exact BK194.out) hb)
         have n8_:=Am (below_step (by repeat (first|(with_reducible first|exact HB.out|apply bA|apply bN|apply bD|refine bS ?_ GE182.out|refine bS ?_ GE188.out|refine bS ?_ GE194.out)|exact HB.out)) hb)
         clear HO_65
         clear HO_183000
         clear HO_189002
         clear HO_195002
         clear BK182
         clear BK188
         clear BK194
         clear HB
         have HO_65:=n0_
         have HO_183000:=n1_
         have HO_189002:=n2_
         have HO_195002:=n3_
         have HO201:=n4_
         have BK182:=n5_
         have BK188:=n6_
         have BK194:=n7_
         have HB:=n8_
         clear n0_ n1_ n2_ n3_ n4_ n5_ n6_ n7_ n8_
         (try clear hb)
         (try clear hb2)
         (try clear hk)
         (try clear hi)
         (try clear ho0)
         refine hK.out _ _ ⟨(kC BK188.out 0).trans rfl,(kC BK188.out 1).trans rfl,(kC BK188.out 2).trans rfl,(kC BK182.out 0).trans rfl,(kC BK182.out 1).trans rfl,(kC BK182.out 2).trans rfl,(kC BK182.out 3).trans rfl,(kC BK182.out 4).trans rfl⟩ (fun hHeld => ?_)
         clear hK K
         refine norm_ (a':=?_) ?_ ?_
         rotate_left
         ·show Act.put _ (some 83) _ = _
          simp only [Act.put,pS]
          rfl
         refine pure_ (i:=9) (N:=some 84) (v:=?_) (a':=?_) #[true,true,true,true,true,true,true,true,true,true,false,false,false] rfl rfl (any_of HT_.out (by kernel_rfl)) (fun _ _ _ h => h) (Or.inl ⟨by rfl,?_⟩) ?_ ?_
         rotate_left
         ·intro w'
          go_simp
          with_reducible rfl
         rotate_left
         ·simp only [Act.put,pS]
          rfl
         refine pure_ (i:=10) (N:=some 85) (v:=?_) (a':=?_) #[true,true,true,true,true,true,true,true,true,true,true,false,false] rfl rfl (any_of HT_.out (by kernel_rfl)) (fun _ _ _ h => h) (Or.inl ⟨by rfl,?_⟩) ?_ ?_
         rotate_left
         ·intro w'
          go_simp
          with_reducible rfl
         rotate_left
         ·simp only [Act.put,pS]
          rfl
         refine pure_ (i:=11) (N:=some 86) (v:=?_) (a':=?_) #[true,true,true,true,true,true,true,true,true,true,true,true,false] rfl rfl (any_of HT_.out (by kernel_rfl)) (fun _ _ _ h => h) (Or.inl ⟨by rfl,?_⟩) ?_ ?_
         rotate_left
         ·intro w'
          go_simp
          with_reducible rfl
         rotate_left
         ·simp only [Act.put,pS]
          rfl
         refine pure_ (i:=12) (N:=some 2) (v:=?_) (a':=?_) #[true,true,true,true,true,true,true,true,true,true,true,true,true] rfl rfl (any_of HT_.out (by kernel_rfl)) (fun _ _ _ h => h) (Or.inl ⟨by rfl,?_⟩) ?_ ?_
         rotate_left
         ·intro w'
          go_simp
          with_reducible rfl
         rotate_left
         ·simp only [Act.put,pS]
          rfl
         refine done_ (done_of HT_.out (by kernel_rfl)) ?_
         try go_wp2
         go_ret
         exact ⟨by first|rfl|(simp [errW_none,errW_some] <;> rfl)|(simp [*,errW_none,errW_some] <;> rfl),by repeat (first|(with_reducible first|exact HB.out|apply bA|apply bN|apply bD|refine bS ?_ GE182.out|refine bS ?_ GE188.out|refine bS ?_ GE194.out)|exact HB.out)⟩
        ·rw [if_neg c44] at H
         have c44b0 : (x9_2 == (wrap64 (1 + (Int.tmod (wrap64 (t176 * 2)) 400)))) = false:=beq_eq_false_iff_ne.mpr c44
         have c44b1 : (x9_2 != (wrap64 (1 + (Int.tmod (wrap64 (t176 * 2)) 400)))) = true:=bne_iff_ne.mpr c44
         exact absurd H (by rw [hrt.out];simp)

/-- THE ONE PURE STATEMENT of laws_FnEven: yours. -/
def laws_FnEven.Pure : Prop:=∀ (l0 : List Int),l0.length ≤ maxLen → l0.length * 1 ≤ 140737488351232 → (∀ x ∈ l0,(Lit.int .u8 x).wf = true) → ∃ k,laws_FnEven.f k l0 = some true
theorem laws_FnEven.walk (P : laws_FnEven.Pure) (a0 : Option Addr) (len0 cap0 : Nat) (z0 : List Int) (w : World) (w0 : (a0 = none∧len0 = 0∧cap0 = 0∧z0 = []) ∨ ∃ x,a0 = some x∧len0 ≤ cap0∧cap0 ≤ maxLen∧z0.length = cap0∧(∀ i,i < z0.length → w.cell? (x.add i) = some (.int .u8 (z0.getD i 0)))∧∀ n ∈ z0,(Lit.int .u8 n).wf = true) (y0 : len0 * 1 ≤ 140737488351232) :
  Calls Try.prog 4 #[.slice a0 len0 cap0] w fun e w' => e = .returned (.bool true)∧Below w.heap.size w w':=by
 obtain ⟨l0,rfl,hr0,hm0,hw0,hc0⟩:=ReadsInt.ofRowC w0
 obtain ⟨k,h⟩:=P l0 hm0 y0 hw0
 refine (laws_FnEven.calls k _ _ l0 true w (Kd.C_of_reads (d:=(0 : Int)) (h1:=fun _ => rfl) hr0) hc0 ⟨rfl⟩ h).mono ?_
 rintro e w' ⟨rfl,hd⟩
 exact ⟨rfl,hd⟩

end Go.Proofs.Ytanjbdgmnecacaa.PE
