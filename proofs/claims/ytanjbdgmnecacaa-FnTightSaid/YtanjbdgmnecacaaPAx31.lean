-- Written by a program of this session (wip/print/myprint.py) over the kit's print, with contracts of its own; not a text of print.sh's.
import Derived.Test.YtanjbdgmnecacaaPAx0
import Derived.Test.YtanjbdgmnecacaaPAx3
import Derived.Test.YtanjbdgmnecacaaPAx8
import Derived.Test.YtanjbdgmnecacaaPAx13
import Derived.Test.YtanjbdgmnecacaaPAx15
import Derived.Test.YtanjbdgmnecacaaPAx18
import Derived.Test.YtanjbdgmnecacaaPAx29
import Derived.Test.YtanjbdgmnecacaaPAx30
namespace Go.Proofs.Ytanjbdgmnecacaa.PA
open Go.RowKit Go.Proofs.YtanjbdgmnecacaaW.PrintWords Go.Proofs.YtanjbdgmnecacaaW.PrintLast Go.Proofs.YtanjbdgmnecacaaW.PrintMore
attribute [local go_sem] max2_int min2_int max_two min_two   -- for this text's walks alone
set_option linter.unusedVariables false
set_option linter.unusedSimpArgs false

/-! ### laws_FnTight: function 5 -/
mutual
def laws_FnTight.j0 : Nat → List Int → Int → List (S39) → List (S45) → Int → Int → Int → List (S39) → List (S45) → Int → Int → Int → Option (Bool)
 | 0,_,_,_,_,_,_,_,_,_,_,_,_ => none
 | k + 1,x0,x4,x414000,x414001,x414002,x414003,x414004,x415000,x415001,x415002,x415003,x415004 => (impl_ProfileOk.f x415000 x415001 x415002 x415003 x415004).bind fun t429 => (if t429 = 0 then (laws_FnTight.l0 k x0 x4 0 x414000 x414001 x414002 x414003 x414004 x415000 x415001 x415002 x415003 x415004) else ((spec_ProfileOk.f k x415000 x415001 x415002 x415003 x415004).bind fun t430 => (some (t430 != 0))))
def laws_FnTight.l0 : Nat → List Int → Int → Int → List (S39) → List (S45) → Int → Int → Int → List (S39) → List (S45) → Int → Int → Int → Option (Bool)
 | 0,_,_,_,_,_,_,_,_,_,_,_,_,_ => none
 | k + 1,x0,x4,x7,x414000,x414001,x414002,x414003,x414004,x415000,x415001,x415002,x415003,x415004 => if x7 < 20 then ((laws_wByte.f x0 (wrap64 (x7 + 3))).bind fun t433 => ((laws_wByte.f x0 x7).bind fun t434 => ((impl_Safe.f k x415000 x415001 x415002 x415003 x415004 x4 (wrap64 (t433 * (wrap64 (1 + (Int.tmod t434 3)))))).bind fun t435 => (if t435 = true then ((impl_Safe.f k x414000 x414001 x414002 x414003 x414004 x4 (wrap64 (t433 * (wrap64 (1 + (Int.tmod t434 3)))))).bind fun t436 => (if t436 = true then ((impl_Safe.f k x415000 x415001 x415002 x415003 x415004 x4 (wrap64 (t433 * (wrap64 (1 + (Int.tmod t434 3)))))).bind fun t437 => ((spec_Safe.f k x415000 x415001 x415002 x415003 x415004 x4 (wrap64 (t433 * (wrap64 (1 + (Int.tmod t434 3)))))).bind fun t438 => (if (t437 != t438) = true then (some false) else (laws_FnTight.l0 k x0 x4 (wrap64 (x7 + 1)) x414000 x414001 x414002 x414003 x414004 x415000 x415001 x415002 x415003 x415004)))) else (some false))) else ((impl_Safe.f k x415000 x415001 x415002 x415003 x415004 x4 (wrap64 (t433 * (wrap64 (1 + (Int.tmod t434 3)))))).bind fun t439 => ((spec_Safe.f k x415000 x415001 x415002 x415003 x415004 x4 (wrap64 (t433 * (wrap64 (1 + (Int.tmod t434 3)))))).bind fun t440 => (if (t439 != t440) = true then (some false) else (laws_FnTight.l0 k x0 x4 (wrap64 (x7 + 1)) x414000 x414001 x414002 x414003 x414004 x415000 x415001 x415002 x415003 x415004)))))))) else ((impl_MostNow.f k x415000 x415001 x415002 x415003 x415004 x4).bind fun t431 => ((impl_MostNow.f k x414000 x414001 x414002 x414003 x414004 x4).bind fun t432 => (some (decide (t431 ≤ t432)))))
end
def laws_FnTight.f (k : Nat) (l0 : List Int) : Option (Bool):=if (l0.length : Int) > 1048576 then (some true) else ((spec_Profiles.f k l0).bind fun bt400 => ((some (([] : List (S45)) : List (S45))).bind fun y415 => (if y415.length + bt400.2.1.length < 5864062014805 then ((some (y415 ++ bt400.2.1 : List (S45))).bind fun y418 => ((laws_wByte.f l0 0).bind fun t421 => (if (Int.tmod t421 3) = 0 then ((laws_wByte.f l0 1).bind fun t422 => ((laws_wByte.f l0 2).bind fun t423 => (if y418.length < 5864062014805 then (laws_FnTight.j0 k l0 bt400.2.2.2.2.2.1 bt400.1 bt400.2.1 bt400.2.2.1 bt400.2.2.2.1 bt400.2.2.2.2.1 bt400.1 (y418 ++ [(⟨bt400.2.2.2.2.2.1,wrap64 (bt400.2.2.2.1 + (wrap64 ((wrap64 (bt400.2.2.2.2.2.1 - bt400.2.2.2.1)) * (Int.tmod t422 2)))),wrap64 (1 + t423)⟩ : S45)]) bt400.2.2.1 bt400.2.2.2.1 bt400.2.2.2.2.1) else (none)))) else (if (Int.tmod t421 3) = 1 then ((laws_wByte.f l0 1).bind fun t427 => (laws_FnTight.j0 k l0 bt400.2.2.2.2.2.1 bt400.1 bt400.2.1 bt400.2.2.1 bt400.2.2.2.1 bt400.2.2.2.2.1 bt400.1 y418 (wrap64 (bt400.2.2.1 + t427)) bt400.2.2.2.1 bt400.2.2.2.2.1)) else ((laws_wByte.f l0 1).bind fun t428 => (laws_FnTight.j0 k l0 bt400.2.2.2.2.2.1 bt400.1 bt400.2.1 bt400.2.2.1 bt400.2.2.2.1 bt400.2.2.2.2.1 bt400.1 y418 bt400.2.2.1 (wrap64 (bt400.2.2.2.1 - (wrap64 (Int.tdiv (wrap64 ((wrap64 (bt400.2.2.2.1 - bt400.2.2.2.2.2.1)) * (Int.tmod t428 5))) 8)))) bt400.2.2.2.2.1)))))) else (none))))
theorem laws_FnTight.mono_l : ∀ k,(∀ y0 y1 y2 y3 y4 y5 y6 y7 y8 y9 y10 y11,LeO (laws_FnTight.j0 k y0 y1 y2 y3 y4 y5 y6 y7 y8 y9 y10 y11) (laws_FnTight.j0 (k + 1) y0 y1 y2 y3 y4 y5 y6 y7 y8 y9 y10 y11))∧(∀ y0 y1 y2 y3 y4 y5 y6 y7 y8 y9 y10 y11 y12,LeO (laws_FnTight.l0 k y0 y1 y2 y3 y4 y5 y6 y7 y8 y9 y10 y11 y12) (laws_FnTight.l0 (k + 1) y0 y1 y2 y3 y4 y5 y6 y7 y8 y9 y10 y11 y12))
 | 0 => ⟨fun _ _ _ _ _ _ _ _ _ _ _ _ r h => by simp [laws_FnTight.j0] at h,fun _ _ _ _ _ _ _ _ _ _ _ _ _ r h => by simp [laws_FnTight.l0] at h⟩
 | k + 1 => by
  obtain ⟨ih0,ih1⟩:=laws_FnTight.mono_l k
  refine ⟨?_,?_⟩
  ·intro y0 y1 y2 y3 y4 y5 y6 y7 y8 y9 y10 y11
   unfold laws_FnTight.j0
   repeat' first
   | (with_reducible exact ih0 _ _ _ _ _ _ _ _ _ _ _ _)
   | (with_reducible exact ih1 _ _ _ _ _ _ _ _ _ _ _ _ _)
   | (with_reducible exact impl_MostNow.mono _ _ _ _ _ _ _)
   | (with_reducible exact impl_Safe.mono _ _ _ _ _ _ _ _)
   | (with_reducible exact spec_ProfileOk.mono _ _ _ _ _ _)
   | (with_reducible exact spec_Profiles.mono _ _)
   | (with_reducible exact spec_Safe.mono _ _ _ _ _ _ _ _)
   | (with_reducible exact LeO.refl _)
   | (with_reducible exact LeO.none _)
   | (with_reducible refine LeO.ite ?_ ?_)
   | (with_reducible refine LeO.bind ?_ (fun _ => ?_))
   | exact ih0 _ _ _ _ _ _ _ _ _ _ _ _
   | exact ih1 _ _ _ _ _ _ _ _ _ _ _ _ _
   | exact impl_MostNow.mono _ _ _ _ _ _ _
   | exact impl_Safe.mono _ _ _ _ _ _ _ _
   | exact spec_ProfileOk.mono _ _ _ _ _ _
   | exact spec_Profiles.mono _ _
   | exact spec_Safe.mono _ _ _ _ _ _ _ _
   | exact LeO.none _
   | refine LeO.ite ?_ ?_
   | refine LeO.bind ?_ (fun _ => ?_)
  ·intro y0 y1 y2 y3 y4 y5 y6 y7 y8 y9 y10 y11 y12
   unfold laws_FnTight.l0
   repeat' first
   | (with_reducible exact ih0 _ _ _ _ _ _ _ _ _ _ _ _)
   | (with_reducible exact ih1 _ _ _ _ _ _ _ _ _ _ _ _ _)
   | (with_reducible exact impl_MostNow.mono _ _ _ _ _ _ _)
   | (with_reducible exact impl_Safe.mono _ _ _ _ _ _ _ _)
   | (with_reducible exact spec_ProfileOk.mono _ _ _ _ _ _)
   | (with_reducible exact spec_Profiles.mono _ _)
   | (with_reducible exact spec_Safe.mono _ _ _ _ _ _ _ _)
   | (with_reducible exact LeO.refl _)
   | (with_reducible exact LeO.none _)
   | (with_reducible refine LeO.ite ?_ ?_)
   | (with_reducible refine LeO.bind ?_ (fun _ => ?_))
   | exact ih0 _ _ _ _ _ _ _ _ _ _ _ _
   | exact ih1 _ _ _ _ _ _ _ _ _ _ _ _ _
   | exact impl_MostNow.mono _ _ _ _ _ _ _
   | exact impl_Safe.mono _ _ _ _ _ _ _ _
   | exact spec_ProfileOk.mono _ _ _ _ _ _
   | exact spec_Profiles.mono _ _
   | exact spec_Safe.mono _ _ _ _ _ _ _ _
   | exact LeO.none _
   | refine LeO.ite ?_ ?_
   | refine LeO.bind ?_ (fun _ => ?_)
theorem laws_FnTight.mono : ∀ a0 k,LeO (laws_FnTight.f k a0) (laws_FnTight.f (k + 1) a0):=by
 intro a0 k
 obtain ⟨ih0,ih1⟩:=laws_FnTight.mono_l k
 unfold laws_FnTight.f
 repeat' first
   | (with_reducible exact ih0 _ _ _ _ _ _ _ _ _ _ _ _)
   | (with_reducible exact ih1 _ _ _ _ _ _ _ _ _ _ _ _ _)
   | (with_reducible exact impl_MostNow.mono _ _ _ _ _ _ _)
   | (with_reducible exact impl_Safe.mono _ _ _ _ _ _ _ _)
   | (with_reducible exact spec_ProfileOk.mono _ _ _ _ _ _)
   | (with_reducible exact spec_Profiles.mono _ _)
   | (with_reducible exact spec_Safe.mono _ _ _ _ _ _ _ _)
   | (with_reducible exact LeO.refl _)
   | (with_reducible exact LeO.none _)
   | (with_reducible refine LeO.ite ?_ ?_)
   | (with_reducible refine LeO.bind ?_ (fun _ => ?_))
   | exact ih0 _ _ _ _ _ _ _ _ _ _ _ _
   | exact ih1 _ _ _ _ _ _ _ _ _ _ _ _ _
   | exact impl_MostNow.mono _ _ _ _ _ _ _
   | exact impl_Safe.mono _ _ _ _ _ _ _ _
   | exact spec_ProfileOk.mono _ _ _ _ _ _
   | exact spec_Profiles.mono _ _
   | exact spec_Safe.mono _ _ _ _ _ _ _ _
   | exact LeO.none _
   | refine LeO.ite ?_ ?_
   | refine LeO.bind ?_ (fun _ => ?_)
def laws_FnTight.T7 : Bool × List (List Nat × List Nat):=(true,[([],[]),([0],[0]),([],[]),([2],[2]),([],[]),([3,4],[3,4]),([],[]),([6],[6]),([7],[7]),([5,8],[5,8]),([9],[9]),([1,10],[1,10]),([0,1,2,3,4,5,6,7,8,9,10,11],[]),([12,11,7,0,1,2,3,4,5,6,7,8,9,10,11],[11,12])])
def laws_FnTight.B7 : List Nat:=[0,1,0,4,0,28,0,64,192,508,1020,2047,4095,8191]
theorem laws_FnTight.tab7 : rtab .any (opsOf Try.f5 7) = laws_FnTight.T7:=by kernel_rfl
theorem laws_FnTight.bits7 : waitsOk laws_FnTight.T7.2 laws_FnTight.B7 = true:=by kernel_rfl
def laws_FnTight.T9 : Bool × List (List Nat × List Nat):=(true,[([],[]),([0],[0]),([],[]),([],[]),([3],[3]),([],[]),([],[]),([6],[6]),([5,7],[5,7]),([],[]),([9],[9]),([10],[10]),([8,11],[8,11]),([4,12],[4,12]),([],[]),([14,10],[14]),([15],[15]),([2,13,16],[2,13,16]),([17],[17]),([1,18,15],[1,18]),([0,1,2,3,4,5,6,7,8,9,10,11,12,13,14,15,16,17,18,19],[]),([20,19,19,0,1,2,3,4,5,6,7,8,9,10,11,12,13,14,15,16,17,18,19],[19,20])])
def laws_FnTight.B9 : List Nat:=[0,1,0,0,8,0,0,64,224,0,512,1536,4064,8184,0,17920,50688,131068,262140,524287,1048575,2097151]
theorem laws_FnTight.tab9 : rtab .any (opsOf Try.f5 9) = laws_FnTight.T9:=by kernel_rfl
theorem laws_FnTight.bits9 : waitsOk laws_FnTight.T9.2 laws_FnTight.B9 = true:=by kernel_rfl
def laws_FnTight.T18 : Bool × List (List Nat × List Nat):=(true,[([],[]),([],[]),([],[]),([0,1,2],[0,1,2]),([3,3],[3]),([4],[4]),([4],[4]),([4],[4]),([5,6,7,4,4],[4,5,6,7]),([8,4],[4,8]),([4,9],[4,9]),([10,8],[10]),([11],[11]),([11],[11]),([11],[11]),([12,13,14,11,11],[11,12,13,14]),([11],[11]),([11],[11]),([11],[11]),([16,17,18,15,11],[11,16,17,18]),([15,19,11],[11,15,19]),([11,20],[11,20])])
def laws_FnTight.B18 : List Nat:=[0,0,0,7,15,31,31,31,255,511,1023,2047,4095,4095,4095,32767,4095,4095,4095,524287,1048575,2097151]
theorem laws_FnTight.tab18 : rtab .any (opsOf Try.f5 18) = laws_FnTight.T18:=by kernel_rfl
theorem laws_FnTight.bits18 : waitsOk laws_FnTight.T18.2 laws_FnTight.B18 = true:=by kernel_rfl
def laws_FnTight.T20 : Bool × List (List Nat × List Nat):=(true,[([],[]),([],[]),([0,1],[0,1]),([],[]),([],[]),([3,4,2],[3,4]),([2,5],[2,5]),([6,5,0,1,2,3,4,5,6],[6])])
def laws_FnTight.B20 : List Nat:=[0,0,3,0,0,31,63,127]
theorem laws_FnTight.tab20 : rtab .any (opsOf Try.f5 20) = laws_FnTight.T20:=by kernel_rfl
theorem laws_FnTight.bits20 : waitsOk laws_FnTight.T20.2 laws_FnTight.B20 = true:=by kernel_rfl
set_option maxHeartbeats 8000000 in
set_option maxRecDepth 100000 in
theorem laws_FnTight.calls (k : Nat) (A0 : Option Addr) (c0 : Nat) (l0 : List Int) (r : Bool) (w : World) (hr0 : Kd.C (Kd.int .u8) w A0 l0.length l0) (hc0 : l0.length ≤ c0) (hrt : As (r = true)) (h : laws_FnTight.f k l0 = some r) :
  Calls Try.prog 5 #[.slice A0 l0.length c0] w fun e w' => e = .returned (.bool r)∧Below w.heap.size w w':=by
 have hu26:=Try.underlying26
 have hu45:=Try.underlying45
 have HR0:=Am hr0
 have HC0:=Am hc0
 clear hr0 hc0
 have HB:=Am (Below.refl w.heap.size w)
 have H : (if (l0.length : Int) > 1048576 then (some true) else ((spec_Profiles.f k l0).bind fun bt400 => ((some (([] : List (S45)) : List (S45))).bind fun y415 => (if y415.length + bt400.2.1.length < 5864062014805 then ((some (y415 ++ bt400.2.1 : List (S45))).bind fun y418 => ((laws_wByte.f l0 0).bind fun t421 => (if (Int.tmod t421 3) = 0 then ((laws_wByte.f l0 1).bind fun t422 => ((laws_wByte.f l0 2).bind fun t423 => (if y418.length < 5864062014805 then (laws_FnTight.j0 k l0 bt400.2.2.2.2.2.1 bt400.1 bt400.2.1 bt400.2.2.1 bt400.2.2.2.1 bt400.2.2.2.2.1 bt400.1 (y418 ++ [(⟨bt400.2.2.2.2.2.1,wrap64 (bt400.2.2.2.1 + (wrap64 ((wrap64 (bt400.2.2.2.2.2.1 - bt400.2.2.2.1)) * (Int.tmod t422 2)))),wrap64 (1 + t423)⟩ : S45)]) bt400.2.2.1 bt400.2.2.2.1 bt400.2.2.2.2.1) else (none)))) else (if (Int.tmod t421 3) = 1 then ((laws_wByte.f l0 1).bind fun t427 => (laws_FnTight.j0 k l0 bt400.2.2.2.2.2.1 bt400.1 bt400.2.1 bt400.2.2.1 bt400.2.2.2.1 bt400.2.2.2.2.1 bt400.1 y418 (wrap64 (bt400.2.2.1 + t427)) bt400.2.2.2.1 bt400.2.2.2.2.1)) else ((laws_wByte.f l0 1).bind fun t428 => (laws_FnTight.j0 k l0 bt400.2.2.2.2.2.1 bt400.1 bt400.2.1 bt400.2.2.1 bt400.2.2.2.1 bt400.2.2.2.2.1 bt400.1 y418 bt400.2.2.1 (wrap64 (bt400.2.2.2.1 - (wrap64 (Int.tdiv (wrap64 ((wrap64 (bt400.2.2.2.1 - bt400.2.2.2.2.2.1)) * (Int.tmod t428 5))) 8)))) bt400.2.2.2.2.1)))))) else (none))))) = some r:=h
 clear h
 by_cases c2 : (l0.length : Int) > 1048576
 ·rw [if_pos c2] at H
  have c2b0 : decide (1048576 < (l0.length : Int)) = true:=decide_eq_true c2
  have c2b1 : decide (1048576 < l0.length) = true:=decide_eq_true (by omega)
  clear c2
  obtain rfl:=Option.some.inj H
  go_enter Try.func5,Try.ntmps5
  go_wp2
  go_ret
  exact ⟨by first|rfl|(simp [errW_none,errW_some] <;> rfl)|(simp [*,errW_none,errW_some] <;> rfl),by repeat (first|(with_reducible first|exact HB.out|apply bA|apply bN|apply bD)|exact HB.out)⟩
 ·rw [if_neg c2] at H
  have c2b0 : decide (1048576 < (l0.length : Int)) = false:=decide_eq_false c2
  have c2b1 : decide (1048576 < l0.length) = false:=decide_eq_false (by omega)
  clear c2
  replace H:=Option.bind_eq_some_iff.mp H
  obtain ⟨⟨t400,t403,t406,t407,t408,t409,t410⟩,A30,H⟩:=H
  replace H : ((some (([] : List (S45)) : List (S45))).bind fun y415 => (if y415.length + t403.length < 5864062014805 then ((some (y415 ++ t403 : List (S45))).bind fun y418 => ((laws_wByte.f l0 0).bind fun t421 => (if (Int.tmod t421 3) = 0 then ((laws_wByte.f l0 1).bind fun t422 => ((laws_wByte.f l0 2).bind fun t423 => (if y418.length < 5864062014805 then (laws_FnTight.j0 k l0 t409 t400 t403 t406 t407 t408 t400 (y418 ++ [(⟨t409,wrap64 (t407 + (wrap64 ((wrap64 (t409 - t407)) * (Int.tmod t422 2)))),wrap64 (1 + t423)⟩ : S45)]) t406 t407 t408) else (none)))) else (if (Int.tmod t421 3) = 1 then ((laws_wByte.f l0 1).bind fun t427 => (laws_FnTight.j0 k l0 t409 t400 t403 t406 t407 t408 t400 y418 (wrap64 (t406 + t427)) t407 t408)) else ((laws_wByte.f l0 1).bind fun t428 => (laws_FnTight.j0 k l0 t409 t400 t403 t406 t407 t408 t400 y418 t406 (wrap64 (t407 - (wrap64 (Int.tdiv (wrap64 ((wrap64 (t407 - t409)) * (Int.tmod t428 5))) 8)))) t408)))))) else (none))) = some r:=H
  have A3:=Am A30
  clear A30
  obtain ⟨y415,hy415⟩ : ∃ y_ : List (S45),y_ = (([] : List (S45))):=⟨_,rfl⟩
  replace H : (if y415.length + t403.length < 5864062014805 then ((some (y415 ++ t403 : List (S45))).bind fun y418 => ((laws_wByte.f l0 0).bind fun t421 => (if (Int.tmod t421 3) = 0 then ((laws_wByte.f l0 1).bind fun t422 => ((laws_wByte.f l0 2).bind fun t423 => (if y418.length < 5864062014805 then (laws_FnTight.j0 k l0 t409 t400 t403 t406 t407 t408 t400 (y418 ++ [(⟨t409,wrap64 (t407 + (wrap64 ((wrap64 (t409 - t407)) * (Int.tmod t422 2)))),wrap64 (1 + t423)⟩ : S45)]) t406 t407 t408) else (none)))) else (if (Int.tmod t421 3) = 1 then ((laws_wByte.f l0 1).bind fun t427 => (laws_FnTight.j0 k l0 t409 t400 t403 t406 t407 t408 t400 y418 (wrap64 (t406 + t427)) t407 t408)) else ((laws_wByte.f l0 1).bind fun t428 => (laws_FnTight.j0 k l0 t409 t400 t403 t406 t407 t408 t400 y418 t406 (wrap64 (t407 - (wrap64 (Int.tdiv (wrap64 ((wrap64 (t407 - t409)) * (Int.tmod t428 5))) 8)))) t408)))))) else (none)) = some r:=by first|(rw [hy415];with_reducible exact H)|(have H2_:=(Option.bind_some _ _).symm.trans H;rw [hy415];with_reducible exact H2_)|(have H2_:=(Option.bind_some _ _).symm.trans H;with_reducible exact H2_)|with_reducible exact H|(rw [hy415];exact H)|exact H
  have Ny415:=Am hy415
  clear hy415
  by_cases c4 : y415.length + t403.length < 5864062014805
  ·rw [if_pos c4] at H
   have LMc4:=Am c4
   clear c4
   obtain ⟨y418,hy418⟩ : ∃ y_ : List (S45),y_ = (y415 ++ t403):=⟨_,rfl⟩
   replace H : ((laws_wByte.f l0 0).bind fun t421 => (if (Int.tmod t421 3) = 0 then ((laws_wByte.f l0 1).bind fun t422 => ((laws_wByte.f l0 2).bind fun t423 => (if y418.length < 5864062014805 then (laws_FnTight.j0 k l0 t409 t400 t403 t406 t407 t408 t400 (y418 ++ [(⟨t409,wrap64 (t407 + (wrap64 ((wrap64 (t409 - t407)) * (Int.tmod t422 2)))),wrap64 (1 + t423)⟩ : S45)]) t406 t407 t408) else (none)))) else (if (Int.tmod t421 3) = 1 then ((laws_wByte.f l0 1).bind fun t427 => (laws_FnTight.j0 k l0 t409 t400 t403 t406 t407 t408 t400 y418 (wrap64 (t406 + t427)) t407 t408)) else ((laws_wByte.f l0 1).bind fun t428 => (laws_FnTight.j0 k l0 t409 t400 t403 t406 t407 t408 t400 y418 t406 (wrap64 (t407 - (wrap64 (Int.tdiv (wrap64 ((wrap64 (t407 - t409)) * (Int.tmod t428 5))) 8)))) t408))))) = some r:=by first|(rw [hy418];with_reducible exact H)|(have H2_:=(Option.bind_some _ _).symm.trans H;rw [hy418];with_reducible exact H2_)|(have H2_:=(Option.bind_some _ _).symm.trans H;with_reducible exact H2_)|with_reducible exact H|(rw [hy418];exact H)|exact H
   have Ny418:=Am hy418
   clear hy418
   replace H:=Option.bind_eq_some_iff.mp H
   obtain ⟨t421,A50,H⟩:=H
   replace H : (if (Int.tmod t421 3) = 0 then ((laws_wByte.f l0 1).bind fun t422 => ((laws_wByte.f l0 2).bind fun t423 => (if y418.length < 5864062014805 then (laws_FnTight.j0 k l0 t409 t400 t403 t406 t407 t408 t400 (y418 ++ [(⟨t409,wrap64 (t407 + (wrap64 ((wrap64 (t409 - t407)) * (Int.tmod t422 2)))),wrap64 (1 + t423)⟩ : S45)]) t406 t407 t408) else (none)))) else (if (Int.tmod t421 3) = 1 then ((laws_wByte.f l0 1).bind fun t427 => (laws_FnTight.j0 k l0 t409 t400 t403 t406 t407 t408 t400 y418 (wrap64 (t406 + t427)) t407 t408)) else ((laws_wByte.f l0 1).bind fun t428 => (laws_FnTight.j0 k l0 t409 t400 t403 t406 t407 t408 t400 y418 t406 (wrap64 (t407 - (wrap64 (Int.tdiv (wrap64 ((wrap64 (t407 - t409)) * (Int.tmod t428 5))) 8)))) t408)))) = some r:=H
   have A5:=Am A50
   clear A50
   have HC6:=Am H
   clear H
   go_enter Try.func5,Try.ntmps5
   go_upto_block 0 with (first|((with_reducible refine gate_callee (f:=9) rfl ?_);refine goesL_ (some 14) rfl rfl Try.func9 (by kernel_rfl) rfl #[.slice A0 l0.length c0] rfl (by (try simp only [List.map_toArray,List.map_cons,List.map_nil]);first|done|rfl|(simp only [List.length_drop,List.length_take];rfl)) ?_;(with_reducible refine (spec_Profiles.calls k _ _ l0 t400 t403 t406 t407 t408 t409 t410 _ ?side1 ?side2 A3.out).mono ?_);(case side1 => repeat (first|exact HR0.out|(with_reducible refine Kd.C_alloc ?_ _)|(with_reducible refine Kd.C_drewN ?_ _)|(with_reducible refine Kd.C_drew ?_)));(case side2 => exact HC0.out);rintro e w7 ⟨v401,v404,v411,rfl,ho0,ho1,ho2,hb⟩;refine ⟨_,rfl,?_⟩;have n0_:=Am (Kd.R_lower ho0 (below_size (by repeat (first|(with_reducible first|exact HB.out|apply bA|apply bN|apply bD)|exact HB.out))));have n1_:=Am (Kd.R_lower ho1 (below_size (by repeat (first|(with_reducible first|exact HB.out|apply bA|apply bN|apply bD)|exact HB.out))));have n2_:=Am (Kd.R_lower ho2 (below_size (by repeat (first|(with_reducible first|exact HB.out|apply bA|apply bN|apply bD)|exact HB.out))));have n3_:=Am (below_step (by repeat (first|(with_reducible first|exact HB.out|apply bA|apply bN|apply bD)|exact HB.out)) hb);clear HB;have HO402:=n0_;have HO405:=n1_;have HO412:=n2_;have HB:=n3_;clear n0_ n1_ n2_ n3_;(try clear hb);(try clear hb2);(try clear hk);(try clear hi);(try clear ho0);(try clear ho1);(try clear ho2))|((with_reducible refine gate_dst (N:=3) rfl ?_);refine box_event ?hg (N:=3) ?hd (cs:=#[.slice none 0 0,.slice none 0 0,.int .i64 0,.int .i64 0,.int .i64 0]) (t:=26) ?hr ?_;(case hd => rfl);(case hg => rfl);(case hr => first|(go_simp;done)|(go_simp;rfl));intro gb413 hg w8 hbox hb;have n0_:=Am (Kd.R_below (by (with_reducible repeat (first|apply Kd.R_alloc|apply Kd.R_drewN|apply Kd.R_drew));exact HO402.out) hb);have n1_:=Am (Kd.R_below (by (with_reducible repeat (first|apply Kd.R_alloc|apply Kd.R_drewN|apply Kd.R_drew));exact HO405.out) hb);have n2_:=Am (Kd.R_below (by (with_reducible repeat (first|apply Kd.R_alloc|apply Kd.R_drewN|apply Kd.R_drew));exact HO412.out) hb);have n3_:=Am (below_step (by repeat (first|(with_reducible first|exact HB.out|apply bA|apply bN|apply bD)|exact HB.out)) hb);have n4_:=Am (hbox);have n5_:=Am ((by rw [hg];exact (below_size (by repeat (first|(with_reducible first|exact HB.out|apply bA|apply bN|apply bD)|exact HB.out))) : w.heap.size ≤ gb413));have n6_:=Am ((by rw [hg];exact (below_size (by repeat (first|(with_reducible first|exact HB.out|apply bA|apply bN|apply bD)|exact HB.out))) : w.heap.size ≤ gb413));clear HO402;clear HO405;clear HO412;clear HB;have HO402:=n0_;have HO405:=n1_;have HO412:=n2_;have HB:=n3_;have BK413:=n4_;have GW413:=n5_;have GE413:=n6_;clear n0_ n1_ n2_ n3_ n4_ n5_ n6_;clear hb hbox hg;obtain ⟨Ao9,co9,eo9⟩:=Kd.R_slice HO402.out;subst eo9;have hcz10_0 : w8.cell? ⟨gb413,0,none⟩ = some (.slice none 0 0):=(kC BK413.out 0).trans rfl;have hcz10_1 : w8.cell? ⟨gb413,1,none⟩ = some (.slice none 0 0):=(kC BK413.out 1).trans rfl;have hcz10_2 : w8.cell? ⟨gb413,2,none⟩ = some (.int .i64 0):=(kC BK413.out 2).trans rfl;have hcz10_3 : w8.cell? ⟨gb413,3,none⟩ = some (.int .i64 0):=(kC BK413.out 3).trans rfl;have hcz10_4 : w8.cell? ⟨gb413,4,none⟩ = some (.int .i64 0):=(kC BK413.out 4).trans rfl;have hfz10_0:=kF BK413.out 0;have hfz10_1:=kF BK413.out 1;have hfz10_2:=kF BK413.out 2;have hfz10_3:=kF BK413.out 3;have hfz10_4:=kF BK413.out 4;obtain ⟨Ao11,co11,eo11⟩:=Kd.R_slice HO405.out;subst eo11)|((with_reducible refine gate_dst (N:=6) rfl ?_);refine box_event ?hg (N:=6) ?hd (cs:=#[.slice none 0 0,.slice none 0 0,.int .i64 0,.int .i64 0,.int .i64 0]) (t:=26) ?hr ?_;(case hd => rfl);(case hg => rfl);(case hr => first|(go_simp;done)|(go_simp;rfl));intro gb414 hg w12 hbox hb;have n0_:=Am (Kd.R_below (by (with_reducible repeat (first|apply Kd.R_alloc|apply Kd.R_drewN|apply Kd.R_drew));exact (Kd.R_mono (Kd.R_far (p:=⟨gb413,4,none⟩) (Kd.R_far (p:=⟨gb413,3,none⟩) (Kd.R_far (p:=⟨gb413,2,none⟩) (Kd.R_far (p:=⟨gb413,1,none⟩) (Kd.R_far (p:=⟨gb413,0,none⟩) (Kd.R_types HO402.out BK413.out (by decide)) (fun _ hk => hk.2) (.slice Ao9 t400.length co9)) (fun _ hk => hk.2) (.slice Ao11 t403.length co11)) (fun _ hk => hk.2) (.int .i64 t406)) (fun _ hk => hk.2) (.int .i64 t407)) (fun _ hk => hk.2) (.int .i64 t408)) (fun _ h_ => h_.1))) hb);have n1_:=Am (Kd.R_below (by (with_reducible repeat (first|apply Kd.R_alloc|apply Kd.R_drewN|apply Kd.R_drew));exact (Kd.R_mono (Kd.R_far (p:=⟨gb413,4,none⟩) (Kd.R_far (p:=⟨gb413,3,none⟩) (Kd.R_far (p:=⟨gb413,2,none⟩) (Kd.R_far (p:=⟨gb413,1,none⟩) (Kd.R_far (p:=⟨gb413,0,none⟩) (Kd.R_types HO405.out BK413.out (by decide)) (fun _ hk => hk.2) (.slice Ao9 t400.length co9)) (fun _ hk => hk.2) (.slice Ao11 t403.length co11)) (fun _ hk => hk.2) (.int .i64 t406)) (fun _ hk => hk.2) (.int .i64 t407)) (fun _ hk => hk.2) (.int .i64 t408)) (fun _ h_ => h_.1))) hb);have n2_:=Am (Kd.R_below (by (with_reducible repeat (first|apply Kd.R_alloc|apply Kd.R_drewN|apply Kd.R_drew));exact (Kd.R_mono (Kd.R_far (p:=⟨gb413,4,none⟩) (Kd.R_far (p:=⟨gb413,3,none⟩) (Kd.R_far (p:=⟨gb413,2,none⟩) (Kd.R_far (p:=⟨gb413,1,none⟩) (Kd.R_far (p:=⟨gb413,0,none⟩) (Kd.R_types HO412.out BK413.out (by decide)) (fun _ hk => hk.2) (.slice Ao9 t400.length co9)) (fun _ hk => hk.2) (.slice Ao11 t403.length co11)) (fun _ hk => hk.2) (.int .i64 t406)) (fun _ hk => hk.2) (.int .i64 t407)) (fun _ hk => hk.2) (.int .i64 t408)) (fun _ h_ => h_.1))) hb);have n3_:=Am (blk_below (g:=gb413) (o:=.cells #[.slice Ao9 t400.length co9,.slice Ao11 t403.length co11,.int .i64 t406,.int .i64 t407,.int .i64 t408] 26 (0,0)) (by (with_reducible repeat (first|refine kN ?_ _|refine kD ?_|refine kA ?_ _));refine blk_put (cs:=#[.slice Ao9 t400.length co9,.slice Ao11 t403.length co11,.int .i64 t406,.int .i64 t407,.int .i64 0]) ?_ 4 _ rfl;(with_reducible repeat (first|refine kN ?_ _|refine kD ?_|refine kA ?_ _));refine blk_put (cs:=#[.slice Ao9 t400.length co9,.slice Ao11 t403.length co11,.int .i64 t406,.int .i64 0,.int .i64 0]) ?_ 3 _ rfl;(with_reducible repeat (first|refine kN ?_ _|refine kD ?_|refine kA ?_ _));refine blk_put (cs:=#[.slice Ao9 t400.length co9,.slice Ao11 t403.length co11,.int .i64 0,.int .i64 0,.int .i64 0]) ?_ 2 _ rfl;(with_reducible repeat (first|refine kN ?_ _|refine kD ?_|refine kA ?_ _));refine blk_put (cs:=#[.slice Ao9 t400.length co9,.slice none 0 0,.int .i64 0,.int .i64 0,.int .i64 0]) ?_ 1 _ rfl;(with_reducible repeat (first|refine kN ?_ _|refine kD ?_|refine kA ?_ _));refine blk_put (cs:=#[.slice none 0 0,.slice none 0 0,.int .i64 0,.int .i64 0,.int .i64 0]) ?_ 0 _ rfl;(with_reducible repeat (first|refine kN ?_ _|refine kD ?_|refine kA ?_ _));exact BK413.out) hb);have n4_:=Am (below_step (by repeat (first|(with_reducible first|exact HB.out|apply bA|apply bN|apply bD|refine bS ?_ GE413.out)|exact HB.out)) hb);have n5_:=Am (hbox);have n6_:=Am ((by rw [hg];exact (below_size (by repeat (first|(with_reducible first|exact HB.out|apply bA|apply bN|apply bD|refine bS ?_ GE413.out)|exact HB.out))) : w.heap.size ≤ gb414));have n7_:=Am ((by rw [hg];exact (below_size (by repeat (first|(with_reducible first|exact HB.out|apply bA|apply bN|apply bD|refine bS ?_ GE413.out)|exact HB.out))) : w.heap.size ≤ gb414));have n8_:=Am ((by rw [hg];exact Nat.ne_of_lt (blk_lt (g:=gb413) (o:=.cells #[.slice Ao9 t400.length co9,.slice Ao11 t403.length co11,.int .i64 t406,.int .i64 t407,.int .i64 t408] 26 (0,0)) (by (with_reducible repeat (first|refine kN ?_ _|refine kD ?_|refine kA ?_ _));refine blk_put (cs:=#[.slice Ao9 t400.length co9,.slice Ao11 t403.length co11,.int .i64 t406,.int .i64 t407,.int .i64 0]) ?_ 4 _ rfl;(with_reducible repeat (first|refine kN ?_ _|refine kD ?_|refine kA ?_ _));refine blk_put (cs:=#[.slice Ao9 t400.length co9,.slice Ao11 t403.length co11,.int .i64 t406,.int .i64 0,.int .i64 0]) ?_ 3 _ rfl;(with_reducible repeat (first|refine kN ?_ _|refine kD ?_|refine kA ?_ _));refine blk_put (cs:=#[.slice Ao9 t400.length co9,.slice Ao11 t403.length co11,.int .i64 0,.int .i64 0,.int .i64 0]) ?_ 2 _ rfl;(with_reducible repeat (first|refine kN ?_ _|refine kD ?_|refine kA ?_ _));refine blk_put (cs:=#[.slice Ao9 t400.length co9,.slice none 0 0,.int .i64 0,.int .i64 0,.int .i64 0]) ?_ 1 _ rfl;(with_reducible repeat (first|refine kN ?_ _|refine kD ?_|refine kA ?_ _));refine blk_put (cs:=#[.slice none 0 0,.slice none 0 0,.int .i64 0,.int .i64 0,.int .i64 0]) ?_ 0 _ rfl;(with_reducible repeat (first|refine kN ?_ _|refine kD ?_|refine kA ?_ _));exact BK413.out)) : gb413 ≠ gb414));have n9_:=Am ((by rw [hg];exact Nat.ne_of_gt (blk_lt (g:=gb413) (o:=.cells #[.slice Ao9 t400.length co9,.slice Ao11 t403.length co11,.int .i64 t406,.int .i64 t407,.int .i64 t408] 26 (0,0)) (by (with_reducible repeat (first|refine kN ?_ _|refine kD ?_|refine kA ?_ _));refine blk_put (cs:=#[.slice Ao9 t400.length co9,.slice Ao11 t403.length co11,.int .i64 t406,.int .i64 t407,.int .i64 0]) ?_ 4 _ rfl;(with_reducible repeat (first|refine kN ?_ _|refine kD ?_|refine kA ?_ _));refine blk_put (cs:=#[.slice Ao9 t400.length co9,.slice Ao11 t403.length co11,.int .i64 t406,.int .i64 0,.int .i64 0]) ?_ 3 _ rfl;(with_reducible repeat (first|refine kN ?_ _|refine kD ?_|refine kA ?_ _));refine blk_put (cs:=#[.slice Ao9 t400.length co9,.slice Ao11 t403.length co11,.int .i64 0,.int .i64 0,.int .i64 0]) ?_ 2 _ rfl;(with_reducible repeat (first|refine kN ?_ _|refine kD ?_|refine kA ?_ _));refine blk_put (cs:=#[.slice Ao9 t400.length co9,.slice none 0 0,.int .i64 0,.int .i64 0,.int .i64 0]) ?_ 1 _ rfl;(with_reducible repeat (first|refine kN ?_ _|refine kD ?_|refine kA ?_ _));refine blk_put (cs:=#[.slice none 0 0,.slice none 0 0,.int .i64 0,.int .i64 0,.int .i64 0]) ?_ 0 _ rfl;(with_reducible repeat (first|refine kN ?_ _|refine kD ?_|refine kA ?_ _));exact BK413.out)) : gb414 ≠ gb413));clear HO402;clear HO405;clear HO412;clear BK413;clear HB;have HO402:=n0_;have HO405:=n1_;have HO412:=n2_;have BK413:=n3_;have HB:=n4_;have BK414:=n5_;have GW414:=n6_;have GE414:=n7_;have NB413_414:=n8_;have NB414_413:=n9_;clear n0_ n1_ n2_ n3_ n4_ n5_ n6_ n7_ n8_ n9_;clear hb hbox hg;have hnb13:=NB414_413.out;have hnc13:=NB413_414.out;have hcz14_0 : w12.cell? ⟨gb414,0,none⟩ = some (.slice none 0 0):=(kC BK414.out 0).trans rfl;have hcz14_1 : w12.cell? ⟨gb414,1,none⟩ = some (.slice none 0 0):=(kC BK414.out 1).trans rfl;have hcz14_2 : w12.cell? ⟨gb414,2,none⟩ = some (.int .i64 0):=(kC BK414.out 2).trans rfl;have hcz14_3 : w12.cell? ⟨gb414,3,none⟩ = some (.int .i64 0):=(kC BK414.out 3).trans rfl;have hcz14_4 : w12.cell? ⟨gb414,4,none⟩ = some (.int .i64 0):=(kC BK414.out 4).trans rfl;have hfz14_0:=kF BK414.out 0;have hfz14_1:=kF BK414.out 1;have hfz14_2:=kF BK414.out 2;have hfz14_3:=kF BK414.out 3;have hfz14_4:=kF BK414.out 4)|((with_reducible refine gate_dst (N:=19) rfl ?_);refine Kd.R_lit k45 _ 45 ?hg (N:=19) ?hd (xs:=([] : List (S45))) (inner:=[]) (ok:=fun _ => True) (okp:=fun _ => True) ?hr ?hp (fun _ hk => hk) trivial (Below.refl _ _) (Nat.le_refl _) (by simp) ?_;(case hd => rfl);(case hg => rfl);(case hr => first|(go_simp;done)|(go_simp;rfl));(case hp => exact (Reps.none _ _));intro v416 w15 ho16 hb hg_ hnew_;clear hg_ hnew_;(first|rw [← Ny415.out] at ho16|(simp only [Int.reduceToNat] at ho16;rw [← Ny415.out] at ho16));have n0_:=Am (Kd.R_below (by (with_reducible repeat (first|apply Kd.R_alloc|apply Kd.R_drewN|apply Kd.R_drew));exact (Kd.R_mono (Kd.R_far (p:=⟨gb414,4,none⟩) (Kd.R_far (p:=⟨gb414,3,none⟩) (Kd.R_far (p:=⟨gb414,2,none⟩) (Kd.R_far (p:=⟨gb414,1,none⟩) (Kd.R_far (p:=⟨gb414,0,none⟩) (Kd.R_types HO402.out BK414.out (by decide)) (fun _ hk => hk.2) (.slice Ao9 t400.length co9)) (fun _ hk => hk.2) (.slice Ao11 t403.length co11)) (fun _ hk => hk.2) (.int .i64 t406)) (fun _ hk => hk.2) (.int .i64 t407)) (fun _ hk => hk.2) (.int .i64 t408)) (fun _ h_ => h_.1))) hb);have n1_:=Am (Kd.R_elder' (by (with_reducible repeat (first|apply Kd.R_alloc|apply Kd.R_drewN|apply Kd.R_drew));exact (Kd.R_mono (Kd.R_far (p:=⟨gb414,4,none⟩) (Kd.R_far (p:=⟨gb414,3,none⟩) (Kd.R_far (p:=⟨gb414,2,none⟩) (Kd.R_far (p:=⟨gb414,1,none⟩) (Kd.R_far (p:=⟨gb414,0,none⟩) (Kd.R_types HO405.out BK414.out (by decide)) (fun _ hk => hk.2) (.slice Ao9 t400.length co9)) (fun _ hk => hk.2) (.slice Ao11 t403.length co11)) (fun _ hk => hk.2) (.int .i64 t406)) (fun _ hk => hk.2) (.int .i64 t407)) (fun _ hk => hk.2) (.int .i64 t408)) (fun _ h_ => h_.1))) (Kd.R_base ho16) hb);have n2_:=Am (Kd.R_below (by (with_reducible repeat (first|apply Kd.R_alloc|apply Kd.R_drewN|apply Kd.R_drew));exact (Kd.R_mono (Kd.R_far (p:=⟨gb414,4,none⟩) (Kd.R_far (p:=⟨gb414,3,none⟩) (Kd.R_far (p:=⟨gb414,2,none⟩) (Kd.R_far (p:=⟨gb414,1,none⟩) (Kd.R_far (p:=⟨gb414,0,none⟩) (Kd.R_types HO412.out BK414.out (by decide)) (fun _ hk => hk.2) (.slice Ao9 t400.length co9)) (fun _ hk => hk.2) (.slice Ao11 t403.length co11)) (fun _ hk => hk.2) (.int .i64 t406)) (fun _ hk => hk.2) (.int .i64 t407)) (fun _ hk => hk.2) (.int .i64 t408)) (fun _ h_ => h_.1))) hb);have n3_:=Am (Kd.R_lower (Kd.R_new' ho16 (Kd.R_lt (by (with_reducible repeat (first|apply Kd.R_alloc|apply Kd.R_drewN|apply Kd.R_drew));exact (Kd.R_mono (Kd.R_far (p:=⟨gb414,4,none⟩) (Kd.R_far (p:=⟨gb414,3,none⟩) (Kd.R_far (p:=⟨gb414,2,none⟩) (Kd.R_far (p:=⟨gb414,1,none⟩) (Kd.R_far (p:=⟨gb414,0,none⟩) (Kd.R_types HO405.out BK414.out (by decide)) (fun _ hk => hk.2) (.slice Ao9 t400.length co9)) (fun _ hk => hk.2) (.slice Ao11 t403.length co11)) (fun _ hk => hk.2) (.int .i64 t406)) (fun _ hk => hk.2) (.int .i64 t407)) (fun _ hk => hk.2) (.int .i64 t408)) (fun _ h_ => h_.1))))) (below_size (by repeat (first|(with_reducible first|exact HB.out|apply bA|apply bN|apply bD|refine bS ?_ GE413.out|refine bS ?_ GE414.out)|exact HB.out))));have n4_:=Am (blk_below (g:=gb413) (o:=.cells #[.slice Ao9 t400.length co9,.slice Ao11 t403.length co11,.int .i64 t406,.int .i64 t407,.int .i64 t408] 26 (0,0)) (by (with_reducible repeat (first|refine kN ?_ _|refine kD ?_|refine kA ?_ _));refine blk_far ?_ NB413_414.out _;(with_reducible repeat (first|refine kN ?_ _|refine kD ?_|refine kA ?_ _));refine blk_far ?_ NB413_414.out _;(with_reducible repeat (first|refine kN ?_ _|refine kD ?_|refine kA ?_ _));refine blk_far ?_ NB413_414.out _;(with_reducible repeat (first|refine kN ?_ _|refine kD ?_|refine kA ?_ _));refine blk_far ?_ NB413_414.out _;(with_reducible repeat (first|refine kN ?_ _|refine kD ?_|refine kA ?_ _));refine blk_far ?_ NB413_414.out _;(with_reducible repeat (first|refine kN ?_ _|refine kD ?_|refine kA ?_ _));exact BK413.out) hb);have n5_:=Am (blk_below (g:=gb414) (o:=.cells #[.slice Ao9 t400.length co9,.slice Ao11 t403.length co11,.int .i64 t406,.int .i64 t407,.int .i64 t408] 26 (0,0)) (by (with_reducible repeat (first|refine kN ?_ _|refine kD ?_|refine kA ?_ _));refine blk_put (cs:=#[.slice Ao9 t400.length co9,.slice Ao11 t403.length co11,.int .i64 t406,.int .i64 t407,.int .i64 0]) ?_ 4 _ rfl;(with_reducible repeat (first|refine kN ?_ _|refine kD ?_|refine kA ?_ _));refine blk_put (cs:=#[.slice Ao9 t400.length co9,.slice Ao11 t403.length co11,.int .i64 t406,.int .i64 0,.int .i64 0]) ?_ 3 _ rfl;(with_reducible repeat (first|refine kN ?_ _|refine kD ?_|refine kA ?_ _));refine blk_put (cs:=#[.slice Ao9 t400.length co9,.slice Ao11 t403.length co11,.int .i64 0,.int .i64 0,.int .i64 0]) ?_ 2 _ rfl;(with_reducible repeat (first|refine kN ?_ _|refine kD ?_|refine kA ?_ _));refine blk_put (cs:=#[.slice Ao9 t400.length co9,.slice none 0 0,.int .i64 0,.int .i64 0,.int .i64 0]) ?_ 1 _ rfl;(with_reducible repeat (first|refine kN ?_ _|refine kD ?_|refine kA ?_ _));refine blk_put (cs:=#[.slice none 0 0,.slice none 0 0,.int .i64 0,.int .i64 0,.int .i64 0]) ?_ 0 _ rfl;(with_reducible repeat (first|refine kN ?_ _|refine kD ?_|refine kA ?_ _));exact BK414.out) hb);have n6_:=Am (below_step (by repeat (first|(with_reducible first|exact HB.out|apply bA|apply bN|apply bD|refine bS ?_ GE413.out|refine bS ?_ GE414.out)|exact HB.out)) hb);clear HO402;clear HO405;clear HO412;clear BK413;clear BK414;clear HB;have HO402:=n0_;have HO405:=n1_;have HO412:=n2_;have HO417:=n3_;have BK413:=n4_;have BK414:=n5_;have HB:=n6_;clear n0_ n1_ n2_ n3_ n4_ n5_ n6_;clear hb ho16;have hcz17_0 : w15.cell? ⟨gb413,0,none⟩ = some (.slice Ao9 t400.length co9):=(kC BK413.out 0).trans rfl;have hcz17_1 : w15.cell? ⟨gb413,1,none⟩ = some (.slice Ao11 t403.length co11):=(kC BK413.out 1).trans rfl;have hcz17_2 : w15.cell? ⟨gb413,2,none⟩ = some (.int .i64 t406):=(kC BK413.out 2).trans rfl;have hcz17_3 : w15.cell? ⟨gb413,3,none⟩ = some (.int .i64 t407):=(kC BK413.out 3).trans rfl;have hcz17_4 : w15.cell? ⟨gb413,4,none⟩ = some (.int .i64 t408):=(kC BK413.out 4).trans rfl;have hfz17_0:=kF BK413.out 0;have hfz17_1:=kF BK413.out 1;have hfz17_2:=kF BK413.out 2;have hfz17_3:=kF BK413.out 3;have hfz17_4:=kF BK413.out 4)|((with_reducible refine gate_builtin (b:=.append) (xs:=#[.tmp 19,.tmp 21]) rfl ?_);at_builtin;refine Kd.R_append_rows k45 (w0:=w) w.heap.size rfl (.tmp 19) (.tmp 21) 24 45 (.agg #[(.int .i64 0),(.int .i64 0),(.int .i64 0)]) 24 rfl Try.underlying24 info45 rfl (by decide) (by omega) v416 y415 t403 _ _ _ (fun k_ => some k_ ≠ (.slice Ao11 t403.length co11 : Value).ownBlock) (fun _ => False) rfl rfl ?aO ?aR (fun _ _ h => h) (fun _ h => h.elim) ?aF ?aB ?aS ?aL ?_;(case aR => repeat (first|exact (Kd.R_reads' HO405.out).2.2|(with_reducible refine Kd.C_alloc ?_ _)|(with_reducible refine Kd.C_drewN ?_ _)|(with_reducible refine Kd.C_drew ?_)));(case aB => exact (by repeat (first|(with_reducible first|exact HB.out|apply bA|apply bN|apply bD|refine bS ?_ GE413.out|refine bS ?_ GE414.out)|exact HB.out)));(case aF => exact (fun k_ hk => Kd.fresh' (Kd.R_lt (by (with_reducible repeat (first|apply Kd.R_alloc|apply Kd.R_drewN|apply Kd.R_drew));exact HO405.out)) k_ hk));(case aO => exact (by (with_reducible repeat (first|apply Kd.R_alloc|apply Kd.R_drewN|apply Kd.R_drew));exact Kd.R_mono HO417.out (fun _ hk => hk.2)));(case aS => exact (below_size (by repeat (first|(with_reducible first|exact HB.out|apply bA|apply bN|apply bD|refine bS ?_ GE413.out|refine bS ?_ GE414.out)|exact HB.out))));(case aL => have:=LMc4.out;omega);intro v419 w18 ho hb hg hat;rw [← Ny418.out] at ho;have n0_:=Am (Kd.R_over' (by (with_reducible repeat (first|apply Kd.R_alloc|apply Kd.R_drewN|apply Kd.R_drew));exact HO402.out) (Kd.R_typed (by (with_reducible repeat (first|apply Kd.R_alloc|apply Kd.R_drewN|apply Kd.R_drew));exact HO417.out)) (by decide) hg);have n1_:=Am (Kd.R_after (ok:=(fun _ => True)) (by (with_reducible repeat (first|apply Kd.R_alloc|apply Kd.R_drewN|apply Kd.R_drew));exact HO405.out) hg hat);have n2_:=Am (Kd.R_over' (by (with_reducible repeat (first|apply Kd.R_alloc|apply Kd.R_drewN|apply Kd.R_drew));exact HO412.out) (Kd.R_typed (by (with_reducible repeat (first|apply Kd.R_alloc|apply Kd.R_drewN|apply Kd.R_drew));exact HO417.out)) (by decide) hg);have n3_:=Am (blk_grown (g:=gb413) (o:=.cells #[.slice Ao9 t400.length co9,.slice Ao11 t403.length co11,.int .i64 t406,.int .i64 t407,.int .i64 t408] 26 (0,0)) (by (with_reducible repeat (first|refine kN ?_ _|refine kD ?_|refine kA ?_ _));exact BK413.out) hg (Kd.R_ne HO417.out BK413.out (by decide)));have n4_:=Am (blk_grown (g:=gb414) (o:=.cells #[.slice Ao9 t400.length co9,.slice Ao11 t403.length co11,.int .i64 t406,.int .i64 t407,.int .i64 t408] 26 (0,0)) (by (with_reducible repeat (first|refine kN ?_ _|refine kD ?_|refine kA ?_ _));exact BK414.out) hg (Kd.R_ne HO417.out BK414.out (by decide)));have n5_:=Am (hb);have n6_:=Am (ho);clear HO402;clear HO405;clear HO412;clear BK413;clear BK414;clear HB;clear HO417;have HO402:=n0_;have HO405:=n1_;have HO412:=n2_;have BK413:=n3_;have BK414:=n4_;have HB:=n5_;have HO420:=n6_;clear n0_ n1_ n2_ n3_ n4_ n5_ n6_;clear ho hb hg hat;obtain ⟨Ao19,co19,eo19⟩:=Kd.R_slice HO420.out;subst eo19;have hcz20_0 : w18.cell? ⟨gb414,0,none⟩ = some (.slice Ao9 t400.length co9):=(kC BK414.out 0).trans rfl;have hcz20_1 : w18.cell? ⟨gb414,1,none⟩ = some (.slice Ao11 t403.length co11):=(kC BK414.out 1).trans rfl;have hcz20_2 : w18.cell? ⟨gb414,2,none⟩ = some (.int .i64 t406):=(kC BK414.out 2).trans rfl;have hcz20_3 : w18.cell? ⟨gb414,3,none⟩ = some (.int .i64 t407):=(kC BK414.out 3).trans rfl;have hcz20_4 : w18.cell? ⟨gb414,4,none⟩ = some (.int .i64 t408):=(kC BK414.out 4).trans rfl;have hfz20_0:=kF BK414.out 0;have hfz20_1:=kF BK414.out 1;have hfz20_2:=kF BK414.out 2;have hfz20_3:=kF BK414.out 3;have hfz20_4:=kF BK414.out 4)|((with_reducible refine gate_callee (f:=15) rfl ?_);refine goesL_ (some 25) rfl rfl Try.func15 (by kernel_rfl) rfl #[.slice A0 l0.length c0,.int .i64 0] rfl (by (try simp only [List.map_toArray,List.map_cons,List.map_nil]);first|done|rfl|(simp only [List.length_drop,List.length_take];rfl)) ?_;(with_reducible refine (laws_wByte.calls _ _ l0 0 t421 _ ?side1 ?side2 A5.out).mono ?_);(case side1 => exact Kd.C_below HR0.out (by repeat (first|(with_reducible first|exact HB.out|apply bA|apply bN|apply bD|refine bS ?_ GE413.out|refine bS ?_ GE414.out)|exact HB.out)));(case side2 => exact HC0.out);rintro e w' ⟨rfl,⟨nd,rfl⟩⟩;refine ⟨_,rfl,?_⟩))
   (try simp only [Act.put,List.setIfInBounds_toArray,List.set_cons_zero,List.set_cons_succ])
   go_cut [] (fun wc => ∃ (kq : Nat) (x415001_5 : List (S45)) (x415002_5 : Int) (x415003_5 : Int) (u415001 : Value),As (laws_FnTight.j0 kq l0 t409 t400 t403 t406 t407 t408 t400 x415001_5 x415002_5 x415003_5 t408 = some r)∧As (kq ≤ k)∧As (Kd.R k39 39 wc w.heap.size (fun _ => True) (.slice Ao9 t400.length co9) t400)∧As (Kd.R k45 45 wc w.heap.size (fun k_ => some k_ ≠ (u415001 : Value).ownBlock) (.slice Ao11 t403.length co11) t403)∧As (Kd.R k39 39 wc w.heap.size (fun _ => True) (.slice Ao9 t400.length co9) t400)∧As (Kd.R k45 45 wc w.heap.size (fun k_ => some k_ ≠ ((.slice Ao11 t403.length co11) : Value).ownBlock) u415001 x415001_5)∧As (wc.heap[gb413]? = some (.cells #[(.slice Ao9 t400.length co9),(.slice Ao11 t403.length co11),.int .i64 t406,.int .i64 t407,.int .i64 t408] 26 (0,0)))∧As (wc.heap[gb414]? = some (.cells #[(.slice Ao9 t400.length co9),u415001,.int .i64 x415002_5,.int .i64 x415003_5,.int .i64 t408] 26 (0,0)))∧As (Below w.heap.size w wc))
   case first =>
    have H:=HC6.out
    clear HC6
    by_cases c21 : (Int.tmod t421 3) = 0
    ·rw [if_pos c21] at H
     have c21b0 : ((Int.tmod t421 3) == 0) = true:=beq_iff_eq.mpr c21
     have c21b1 : ((Int.tmod t421 3) != 0) = false:=bne_eq_false_iff_eq.mpr c21
     clear c21
     (first|rw [c21b0]|(simp only [i64_w,i32_w];rw [c21b0])|skip)
     replace H:=Option.bind_eq_some_iff.mp H
     obtain ⟨t422,A220,H⟩:=H
     replace H : ((laws_wByte.f l0 2).bind fun t423 => (if y418.length < 5864062014805 then (laws_FnTight.j0 k l0 t409 t400 t403 t406 t407 t408 t400 (y418 ++ [(⟨t409,wrap64 (t407 + (wrap64 ((wrap64 (t409 - t407)) * (Int.tmod t422 2)))),wrap64 (1 + t423)⟩ : S45)]) t406 t407 t408) else (none))) = some r:=H
     have A22:=Am A220
     clear A220
     replace H:=Option.bind_eq_some_iff.mp H
     obtain ⟨t423,A230,H⟩:=H
     replace H : (if y418.length < 5864062014805 then (laws_FnTight.j0 k l0 t409 t400 t403 t406 t407 t408 t400 (y418 ++ [(⟨t409,wrap64 (t407 + (wrap64 ((wrap64 (t409 - t407)) * (Int.tmod t422 2)))),wrap64 (1 + t423)⟩ : S45)]) t406 t407 t408) else (none)) = some r:=H
     have A23:=Am A230
     clear A230
     by_cases c24 : y418.length < 5864062014805
     ·rw [if_pos c24] at H
      have LMc24:=Am c24
      clear c24
      obtain ⟨y424,hy424⟩ : ∃ y_ : List (S45),y_ = (y418 ++ [(⟨t409,wrap64 (t407 + (wrap64 ((wrap64 (t409 - t407)) * (Int.tmod t422 2)))),wrap64 (1 + t423)⟩ : S45)]):=⟨_,rfl⟩
      replace H : (laws_FnTight.j0 k l0 t409 t400 t403 t406 t407 t408 t400 y424 t406 t407 t408) = some r:=by first|(rw [hy424];with_reducible exact H)|(have H2_:=(Option.bind_some _ _).symm.trans H;rw [hy424];with_reducible exact H2_)|(have H2_:=(Option.bind_some _ _).symm.trans H;with_reducible exact H2_)|with_reducible exact H|(rw [hy424];exact H)|exact H
      have Ny424:=Am hy424
      clear hy424
      have H':=Am H
      clear H
      try go_wp2
      have n0_ : As (Kd.R k39 39 (w18.setCell ⟨gb414,1,none⟩ (.slice Ao19 y418.length co19)) w.heap.size (fun _ => True) (.slice Ao9 t400.length co9) t400):=⟨by (with_reducible repeat (first|apply Kd.R_alloc|apply Kd.R_drewN|apply Kd.R_drew));exact Kd.R_mono (Kd.R_far (p:=⟨gb414,1,none⟩) (Kd.R_types HO402.out BK414.out (by decide)) (fun _ hk => hk.2) (.slice Ao19 y418.length co19)) (fun _ hk => trivial)⟩
      have n1_ : As (Kd.R k45 45 (w18.setCell ⟨gb414,1,none⟩ (.slice Ao19 y418.length co19)) w.heap.size (fun k_ => some k_ ≠ (.slice Ao19 y418.length co19 : Value).ownBlock) (.slice Ao11 t403.length co11) t403):=⟨by (with_reducible repeat (first|apply Kd.R_alloc|apply Kd.R_drewN|apply Kd.R_drew));exact Kd.R_mono (Kd.R_far (p:=⟨gb414,1,none⟩) (Kd.R_types HO405.out BK414.out (by decide)) (fun _ hk => hk.2) (.slice Ao19 y418.length co19)) (fun _ hk => hk.1.2)⟩
      have n2_ : As (Kd.R (Kd.int .i64) 3 (w18.setCell ⟨gb414,1,none⟩ (.slice Ao19 y418.length co19)) w.heap.size (fun _ => True) v411 t410):=⟨by (with_reducible repeat (first|apply Kd.R_alloc|apply Kd.R_drewN|apply Kd.R_drew));exact Kd.R_mono (Kd.R_far (p:=⟨gb414,1,none⟩) (Kd.R_types HO412.out BK414.out (by decide)) (fun _ hk => hk.2) (.slice Ao19 y418.length co19)) (fun _ hk => trivial)⟩
      have n3_ : As (Kd.R k45 45 (w18.setCell ⟨gb414,1,none⟩ (.slice Ao19 y418.length co19)) w.heap.size (fun k_ => some k_ ≠ (.slice Ao11 t403.length co11 : Value).ownBlock) (.slice Ao19 y418.length co19) y418):=⟨by (with_reducible repeat (first|apply Kd.R_alloc|apply Kd.R_drewN|apply Kd.R_drew));exact Kd.R_mono (Kd.R_far (p:=⟨gb414,1,none⟩) (Kd.R_types HO420.out BK414.out (by decide)) (fun _ hk => hk.2) (.slice Ao19 y418.length co19)) (fun _ hk => hk.1)⟩
      have n4_ : As ((w18.setCell ⟨gb414,1,none⟩ (.slice Ao19 y418.length co19)).heap[gb413]? = some (.cells #[.slice Ao9 t400.length co9,.slice Ao11 t403.length co11,.int .i64 t406,.int .i64 t407,.int .i64 t408] 26 (0,0))):=⟨by (with_reducible repeat (first|refine kN ?_ _|refine kD ?_|refine kA ?_ _));refine blk_far ?_ NB413_414.out _;(with_reducible repeat (first|refine kN ?_ _|refine kD ?_|refine kA ?_ _));exact BK413.out⟩
      have n5_ : As ((w18.setCell ⟨gb414,1,none⟩ (.slice Ao19 y418.length co19)).heap[gb414]? = some (.cells #[.slice Ao9 t400.length co9,.slice Ao19 y418.length co19,.int .i64 t406,.int .i64 t407,.int .i64 t408] 26 (0,0))):=⟨by (with_reducible repeat (first|refine kN ?_ _|refine kD ?_|refine kA ?_ _));refine blk_put (cs:=#[.slice Ao9 t400.length co9,.slice Ao11 t403.length co11,.int .i64 t406,.int .i64 t407,.int .i64 t408]) ?_ 1 _ rfl;(with_reducible repeat (first|refine kN ?_ _|refine kD ?_|refine kA ?_ _));exact BK414.out⟩
      have n6_ : As (Below w.heap.size w (w18.setCell ⟨gb414,1,none⟩ (.slice Ao19 y418.length co19))):=⟨by repeat (first|(with_reducible first|exact HB.out|apply bA|apply bN|apply bD|refine bS ?_ GE413.out|refine bS ?_ GE414.out)|exact HB.out)⟩
      (try clear HO402)
      (try clear HO405)
      (try clear HO412)
      (try clear HO420)
      (try clear BK413)
      (try clear BK414)
      (try clear HB)
      generalize (w18.setCell ⟨gb414,1,none⟩ (.slice Ao19 y418.length co19)) = w25 at n0_ n1_ n2_ n3_ n4_ n5_ n6_ ⊢
      have HO402:=n0_
      have HO405:=n1_
      have HO412:=n2_
      have HO420:=n3_
      have BK413:=n4_
      have BK414:=n5_
      have HB:=n6_
      clear n0_ n1_ n2_ n3_ n4_ n5_ n6_
      have n0_:=Am (Kd.R_drewN HO402.out nd)
      have n1_:=Am (Kd.R_drewN HO405.out nd)
      have n2_:=Am (Kd.R_drewN HO412.out nd)
      have n3_:=Am (Kd.R_drewN HO420.out nd)
      have n4_:=Am (kN BK413.out nd)
      have n5_:=Am (kN BK414.out nd)
      have n6_:=Am (bN HB.out nd)
      clear HO402
      clear HO405
      clear HO412
      clear HO420
      clear BK413
      clear BK414
      clear HB
      generalize w25.drewN nd = w25 at n0_ n1_ n2_ n3_ n4_ n5_ n6_ ⊢
      have HO402:=n0_
      have HO405:=n1_
      have HO412:=n2_
      have HO420:=n3_
      have BK413:=n4_
      have BK414:=n5_
      have HB:=n6_
      clear n0_ n1_ n2_ n3_ n4_ n5_ n6_
      have n0_:=Am (Kd.R_drew HO402.out)
      have n1_:=Am (Kd.R_drew HO405.out)
      have n2_:=Am (Kd.R_drew HO412.out)
      have n3_:=Am (Kd.R_drew HO420.out)
      have n4_:=Am (kD BK413.out)
      have n5_:=Am (kD BK414.out)
      have n6_:=Am (bD HB.out)
      clear HO402
      clear HO405
      clear HO412
      clear HO420
      clear BK413
      clear BK414
      clear HB
      have HO402:=n0_
      have HO405:=n1_
      have HO412:=n2_
      have HO420:=n3_
      have BK413:=n4_
      have BK414:=n5_
      have HB:=n6_
      clear n0_ n1_ n2_ n3_ n4_ n5_ n6_
      refine start_ (n:=22) (S:=fun w' => w'.cell? ⟨gb414,0,none⟩ = some (.slice Ao9 t400.length co9)∧w'.cell? ⟨gb414,1,none⟩ = some (.slice Ao19 y418.length co19)∧w'.cell? ⟨gb414,2,none⟩ = some (.int .i64 t406)∧w'.cell? ⟨gb414,3,none⟩ = some (.int .i64 t407)∧w'.cell? ⟨gb414,4,none⟩ = some (.int .i64 t408)∧w'.cell? ⟨gb413,0,none⟩ = some (.slice Ao9 t400.length co9)∧w'.cell? ⟨gb413,1,none⟩ = some (.slice Ao11 t403.length co11)∧w'.cell? ⟨gb413,2,none⟩ = some (.int .i64 t406)∧w'.cell? ⟨gb413,3,none⟩ = some (.int .i64 t407)∧w'.cell? ⟨gb413,4,none⟩ = some (.int .i64 t408)) (ds:=[21]) #[false,false,false,false,false,false,false,false,false,false,false,false,false,false,false,false,false,false,false,false,false,false] (by kernel_rfl) rfl rfl ⟨(kC BK414.out 0).trans rfl,(kC BK414.out 1).trans rfl,(kC BK414.out 2).trans rfl,(kC BK414.out 3).trans rfl,(kC BK414.out 4).trans rfl,(kC BK413.out 0).trans rfl,(kC BK413.out 1).trans rfl,(kC BK413.out 2).trans rfl,(kC BK413.out 3).trans rfl,(kC BK413.out 4).trans rfl⟩ (fun hHeld => ?_);refine with_tabW laws_FnTight.tab9 laws_FnTight.bits9 (fun HT_ HW_ => ?_)
      generalize w25.drew = w26 at HO402 HO405 HO412 HO420 BK413 BK414 HB hHeld ⊢
      refine pure_ (i:=0) (N:=some 42) (v:=?_) (a':=?_) #[true,false,false,false,false,false,false,false,false,false,false,false,false,false,false,false,false,false,false,false,false,false] rfl rfl (any_of HT_.out (by kernel_rfl)) (fun _ _ _ h => h) (Or.inl ⟨by rfl,?_⟩) ?_ ?_
      rotate_left
      ·intro w'
       go_simp
       with_reducible rfl
      rotate_left
      ·simp only [Act.put,pS]
       rfl
      refine pure_ (i:=2) (N:=some 44) (v:=?_) (a':=?_) #[true,false,true,false,false,false,false,false,false,false,false,false,false,false,false,false,false,false,false,false,false,false] rfl rfl (any_of HT_.out (by kernel_rfl)) (fun _ _ _ h => h) (Or.inl ⟨by rfl,?_⟩) ?_ ?_
      rotate_left
      ·intro w'
       go_simp
       with_reducible rfl
      rotate_left
      ·simp only [Act.put,pS]
       rfl
      refine pure_ (i:=3) (N:=some 45) (v:=?_) (a':=?_) #[true,false,true,true,false,false,false,false,false,false,false,false,false,false,false,false,false,false,false,false,false,false] rfl rfl (any_of HT_.out (by kernel_rfl)) (fun _ _ _ h => h) (Or.inl ⟨by rfl,?_⟩) ?_ ?_
      rotate_left
      ·intro w'
       go_simp
       with_reducible rfl
      rotate_left
      ·simp only [Act.put,pS]
       rfl
      refine pure_ (i:=5) (N:=some 47) (v:=?_) (a':=?_) #[true,false,true,true,false,true,false,false,false,false,false,false,false,false,false,false,false,false,false,false,false,false] rfl rfl (any_of HT_.out (by kernel_rfl)) (fun _ _ _ h => h) (Or.inl ⟨by rfl,?_⟩) ?_ ?_
      rotate_left
      ·intro w'
       go_simp
       with_reducible rfl
      rotate_left
      ·simp only [Act.put,pS]
       rfl
      refine pure_ (i:=6) (N:=some 48) (v:=?_) (a':=?_) #[true,false,true,true,false,true,true,false,false,false,false,false,false,false,false,false,false,false,false,false,false,false] rfl rfl (any_of HT_.out (by kernel_rfl)) (fun _ _ _ h => h) (Or.inl ⟨by rfl,?_⟩) ?_ ?_
      rotate_left
      ·intro w'
       go_simp
       with_reducible rfl
      rotate_left
      ·simp only [Act.put,pS]
       rfl
      refine pure_ (i:=9) (N:=some 51) (v:=?_) (a':=?_) #[true,false,true,true,false,true,true,false,false,true,false,false,false,false,false,false,false,false,false,false,false,false] rfl rfl (any_of HT_.out (by kernel_rfl)) (fun _ _ _ h => h) (Or.inl ⟨by rfl,?_⟩) ?_ ?_
      rotate_left
      ·intro w'
       go_simp
       with_reducible rfl
      rotate_left
      ·simp only [Act.put,pS]
       rfl
      refine pure_ (i:=14) (N:=some 56) (v:=?_) (a':=?_) #[true,false,true,true,false,true,true,false,false,true,false,false,false,false,true,false,false,false,false,false,false,false] rfl rfl (any_of HT_.out (by kernel_rfl)) (fun _ _ _ h => h) (Or.inl ⟨by rfl,?_⟩) ?_ ?_
      rotate_left
      ·intro w'
       go_simp
       with_reducible rfl
      rotate_left
      ·simp only [Act.put,pS]
       rfl
      refine take_ (i:=1) (N:=some 43) (v:=?_) (a':=?_) #[true,true,true,true,false,true,true,false,false,true,false,false,false,false,true,false,false,false,false,false,false,false] rfl rfl (take_ofW HT_.out HW_.out (by kernel_rfl)) (fun _ _ _ h => h) (Or.inl ⟨by rfl,?_⟩) hHeld ?_ ?_
      rotate_left
      ·rintro w' ⟨s0,s1,s2,s3,s4,s5,s6,s7,s8,s9⟩
       go_simp
       with_reducible rfl
      rotate_left
      ·simp only [Act.put,pS]
       rfl
      refine take_ (i:=4) (N:=some 46) (v:=?_) (a':=?_) #[true,true,true,true,true,true,true,false,false,true,false,false,false,false,true,false,false,false,false,false,false,false] rfl rfl (take_ofW HT_.out HW_.out (by kernel_rfl)) (fun _ _ _ h => h) (Or.inl ⟨by rfl,?_⟩) hHeld ?_ ?_
      rotate_left
      ·rintro w' ⟨s0,s1,s2,s3,s4,s5,s6,s7,s8,s9⟩
       go_simp
       with_reducible rfl
      rotate_left
      ·simp only [Act.put,pS]
       rfl
      refine take_ (i:=7) (N:=some 49) (v:=?_) (a':=?_) #[true,true,true,true,true,true,true,true,false,true,false,false,false,false,true,false,false,false,false,false,false,false] rfl rfl (take_ofW HT_.out HW_.out (by kernel_rfl)) (fun _ _ _ h => h) (Or.inl ⟨by rfl,?_⟩) hHeld ?_ ?_
      rotate_left
      ·rintro w' ⟨s0,s1,s2,s3,s4,s5,s6,s7,s8,s9⟩
       go_simp
       with_reducible rfl
      rotate_left
      ·simp only [Act.put,pS]
       rfl
      refine pure_ (i:=8) (N:=some 50) (v:=?_) (a':=?_) #[true,true,true,true,true,true,true,true,true,true,false,false,false,false,true,false,false,false,false,false,false,false] rfl rfl (any_of HT_.out (by kernel_rfl)) (fun _ _ _ h => h) (Or.inl ⟨by rfl,?_⟩) ?_ ?_
      rotate_left
      ·intro w'
       go_simp
       with_reducible rfl
      rotate_left
      ·simp only [Act.put,pS]
       rfl
      refine one_ (i:=10) (N:=some 52) #[true,true,true,true,true,true,true,true,true,true,true,false,false,false,true,false,false,false,false,false,false,false] rfl rfl (one_of HT_.out (by kernel_rfl)) (by decide) (fun K hK => ?_)
      refine goes_ Try.func15 (by kernel_rfl) rfl #[.slice A0 l0.length c0,.int .i64 1] (by rfl) rfl rfl (by (try simp only [List.map_toArray,List.map_cons,List.map_nil]);first|done|rfl|(simp only [List.length_drop,List.length_take];rfl)) ?_
      with_reducible refine (laws_wByte.calls _ _ l0 1 t422 _ ?side1 ?side2 A22.out).mono ?_
      (case side1 => repeat (first|exact (Kd.C_below HR0.out HB.out)|(with_reducible refine Kd.C_alloc ?_ _)|(with_reducible refine Kd.C_drewN ?_ _)|(with_reducible refine Kd.C_drew ?_)))
      (case side2 => exact HC0.out)
      rintro e w' ⟨rfl,⟨nd,rfl⟩⟩
      refine ⟨_,rfl,?_⟩
      refine hK.out _ _ ⟨(kC BK414.out 0).trans rfl,(kC BK414.out 1).trans rfl,(kC BK414.out 2).trans rfl,(kC BK414.out 3).trans rfl,(kC BK414.out 4).trans rfl,(kC BK413.out 0).trans rfl,(kC BK413.out 1).trans rfl,(kC BK413.out 2).trans rfl,(kC BK413.out 3).trans rfl,(kC BK413.out 4).trans rfl⟩ (fun hHeld => ?_)
      clear hK K
      refine norm_ (a':=?_) ?_ ?_
      rotate_left
      ·show Act.put _ (some 52) _ = _
       simp only [Act.put,pS]
       rfl
      refine pure_ (i:=11) (N:=some 53) (v:=?_) (a':=?_) #[true,true,true,true,true,true,true,true,true,true,true,true,false,false,true,false,false,false,false,false,false,false] rfl rfl (any_of HT_.out (by kernel_rfl)) (fun _ _ _ h => h) (Or.inl ⟨by rfl,?_⟩) ?_ ?_
      rotate_left
      ·intro w'
       go_simp
       with_reducible rfl
      rotate_left
      ·simp only [Act.put,pS]
       rfl
      refine pure_ (i:=12) (N:=some 54) (v:=?_) (a':=?_) #[true,true,true,true,true,true,true,true,true,true,true,true,true,false,true,false,false,false,false,false,false,false] rfl rfl (any_of HT_.out (by kernel_rfl)) (fun _ _ _ h => h) (Or.inl ⟨by rfl,?_⟩) ?_ ?_
      rotate_left
      ·intro w'
       go_simp
       with_reducible rfl
      rotate_left
      ·simp only [Act.put,pS]
       rfl
      refine pure_ (i:=13) (N:=some 55) (v:=?_) (a':=?_) #[true,true,true,true,true,true,true,true,true,true,true,true,true,true,true,false,false,false,false,false,false,false] rfl rfl (any_of HT_.out (by kernel_rfl)) (fun _ _ _ h => h) (Or.inl ⟨by rfl,?_⟩) ?_ ?_
      rotate_left
      ·intro w'
       go_simp
       with_reducible rfl
      rotate_left
      ·simp only [Act.put,pS]
       rfl
      refine one_ (i:=15) (N:=some 57) #[true,true,true,true,true,true,true,true,true,true,true,true,true,true,true,true,false,false,false,false,false,false] rfl rfl (one_of HT_.out (by kernel_rfl)) (by decide) (fun K hK => ?_)
      refine goes_ Try.func15 (by kernel_rfl) rfl #[.slice A0 l0.length c0,.int .i64 2] (by rfl) rfl rfl (by (try simp only [List.map_toArray,List.map_cons,List.map_nil]);first|done|rfl|(simp only [List.length_drop,List.length_take];rfl)) ?_
      with_reducible refine (laws_wByte.calls _ _ l0 2 t423 _ ?side1 ?side2 A23.out).mono ?_
      (case side1 => repeat (first|exact (Kd.C_below HR0.out (by repeat (first|(with_reducible first|exact HB.out|apply bA|apply bN|apply bD|refine bS ?_ GE413.out|refine bS ?_ GE414.out)|exact HB.out)))|(with_reducible refine Kd.C_alloc ?_ _)|(with_reducible refine Kd.C_drewN ?_ _)|(with_reducible refine Kd.C_drew ?_)))
      (case side2 => exact HC0.out)
      rintro e w' ⟨rfl,⟨nd,rfl⟩⟩
      refine ⟨_,rfl,?_⟩
      refine hK.out _ _ ⟨(kC BK414.out 0).trans rfl,(kC BK414.out 1).trans rfl,(kC BK414.out 2).trans rfl,(kC BK414.out 3).trans rfl,(kC BK414.out 4).trans rfl,(kC BK413.out 0).trans rfl,(kC BK413.out 1).trans rfl,(kC BK413.out 2).trans rfl,(kC BK413.out 3).trans rfl,(kC BK413.out 4).trans rfl⟩ (fun hHeld => ?_)
      clear hK K
      refine norm_ (a':=?_) ?_ ?_
      rotate_left
      ·show Act.put _ (some 57) _ = _
       simp only [Act.put,pS]
       rfl
      refine pure_ (i:=16) (N:=some 58) (v:=?_) (a':=?_) #[true,true,true,true,true,true,true,true,true,true,true,true,true,true,true,true,true,false,false,false,false,false] rfl rfl (any_of HT_.out (by kernel_rfl)) (fun _ _ _ h => h) (Or.inl ⟨by rfl,?_⟩) ?_ ?_
      rotate_left
      ·intro w'
       go_simp
       with_reducible rfl
      rotate_left
      ·simp only [Act.put,pS]
       rfl
      refine pure_ (i:=17) (N:=some 59) (v:=?_) (a':=?_) #[true,true,true,true,true,true,true,true,true,true,true,true,true,true,true,true,true,true,false,false,false,false] rfl rfl (any_of HT_.out (by kernel_rfl)) (fun _ _ _ h => h) (Or.inl ⟨by rfl,?_⟩) ?_ ?_
      rotate_left
      ·intro w'
       go_simp
       with_reducible rfl
      rotate_left
      ·simp only [Act.put,pS]
       rfl
      refine one_ (i:=18) (N:=some 60) #[true,true,true,true,true,true,true,true,true,true,true,true,true,true,true,true,true,true,true,false,false,false] rfl rfl (one_of HT_.out (by kernel_rfl)) (by decide) (fun K hK => ?_)
      refine value_ (w1:=?_) (v:=?_) (by rfl) rfl ?_ ?_
      rotate_left 2
      ·go_simp
       constructor
       ·rfl
       ·rfl
      refine hK.out _ _ ⟨(kC (kA BK414.out _) 0).trans rfl,(kC (kA BK414.out _) 1).trans rfl,(kC (kA BK414.out _) 2).trans rfl,(kC (kA BK414.out _) 3).trans rfl,(kC (kA BK414.out _) 4).trans rfl,(kC (kA BK413.out _) 0).trans rfl,(kC (kA BK413.out _) 1).trans rfl,(kC (kA BK413.out _) 2).trans rfl,(kC (kA BK413.out _) 3).trans rfl,(kC (kA BK413.out _) 4).trans rfl⟩ (fun hHeld => ?_)
      clear hK K
      refine norm_ (a':=?_) ?_ ?_
      rotate_left
      ·show Act.put _ (some 60) _ = _
       simp only [Act.put,pS]
       rfl
      refine one_ (i:=19) (N:=some 61) #[true,true,true,true,true,true,true,true,true,true,true,true,true,true,true,true,true,true,true,true,false,false] rfl rfl (one_of HT_.out (by kernel_rfl)) (by decide) (fun K hK => ?_)
      refine Kd.R_append_step k45 (w0:=w) w.heap.size (by rfl) (.tmp 43) (.tmp 60) 24 45 (.agg #[(.int .i64 0),(.int .i64 0),(.int .i64 0)]) 24 rfl Try.underlying24 info45 rfl (by decide) (by omega) (.slice Ao19 y418.length co19) y418 (⟨t409,wrap64 (t407 + (wrap64 ((wrap64 (t409 - t407)) * (Int.tmod t422 2)))),wrap64 (1 + t423)⟩ : S45) [.int .i64 t409,.int .i64 (wrap64 (t407 + (wrap64 ((wrap64 (t409 - t407)) * (Int.tmod t422 2))))),.int .i64 (wrap64 (1 + t423))] (fun k_ => some k_ ≠ (.slice Ao11 t403.length co11 : Value).ownBlock) (fun _ => False) rfl rfl ?aP (fun _ hk => hk.elim) ?aF ?aO ?aB ?aS ?aL ?_
      (case aP => exact k45_mkM _ _ _ (⟨t409,wrap64 (t407 + (wrap64 ((wrap64 (t409 - t407)) * (Int.tmod t422 2)))),wrap64 (1 + t423)⟩ : S45))
      (case aB => exact (by repeat (first|(with_reducible first|exact HB.out|apply bA|apply bN|apply bD|refine bS ?_ GE413.out|refine bS ?_ GE414.out)|exact HB.out)))
      (case aF => exact (fun k_ hk => Kd.fresh' (Kd.R_lt (by (with_reducible repeat (first|apply Kd.R_alloc|apply Kd.R_drewN|apply Kd.R_drew));exact HO405.out)) k_ hk))
      (case aO => exact (by (with_reducible repeat (first|apply Kd.R_alloc|apply Kd.R_drewN|apply Kd.R_drew));exact HO420.out))
      (case aS => exact (below_size (by repeat (first|(with_reducible first|exact HB.out|apply bA|apply bN|apply bD|refine bS ?_ GE413.out|refine bS ?_ GE414.out)|exact HB.out))))
      (case aL => have:=LMc24.out;omega)
      intro v425 w27 ho hb hg hat
      rw [← Ny424.out] at ho
      have n0_:=Am (Kd.R_over' (by (with_reducible repeat (first|apply Kd.R_alloc|apply Kd.R_drewN|apply Kd.R_drew));exact HO402.out) (Kd.R_typed (by (with_reducible repeat (first|apply Kd.R_alloc|apply Kd.R_drewN|apply Kd.R_drew));exact HO420.out)) (by decide) hg)
      have n1_:=Am (Kd.R_after (ok:=(fun _ => True)) (by (with_reducible repeat (first|apply Kd.R_alloc|apply Kd.R_drewN|apply Kd.R_drew));exact Kd.R_mono HO405.out (fun _ hk => ⟨trivial,hk⟩)) hg hat)
      have n2_:=Am (Kd.R_over' (by (with_reducible repeat (first|apply Kd.R_alloc|apply Kd.R_drewN|apply Kd.R_drew));exact HO412.out) (Kd.R_typed (by (with_reducible repeat (first|apply Kd.R_alloc|apply Kd.R_drewN|apply Kd.R_drew));exact HO420.out)) (by decide) hg)
      have n3_:=Am (blk_grown (g:=gb413) (o:=.cells #[.slice Ao9 t400.length co9,.slice Ao11 t403.length co11,.int .i64 t406,.int .i64 t407,.int .i64 t408] 26 (0,0)) (by (with_reducible repeat (first|refine kN ?_ _|refine kD ?_|refine kA ?_ _));exact BK413.out) hg (Kd.R_ne HO420.out BK413.out (by decide)))
      have n4_:=Am (blk_grown (g:=gb414) (o:=.cells #[.slice Ao9 t400.length co9,.slice Ao19 y418.length co19,.int .i64 t406,.int .i64 t407,.int .i64 t408] 26 (0,0)) (by (with_reducible repeat (first|refine kN ?_ _|refine kD ?_|refine kA ?_ _));exact BK414.out) hg (Kd.R_ne HO420.out BK414.out (by decide)))
      have n5_:=Am (hb)
      have n6_:=Am (ho)
      clear HO402
      clear HO405
      clear HO412
      clear BK413
      clear BK414
      clear HB
      clear HO420
      have HO402:=n0_
      have HO405:=n1_
      have HO412:=n2_
      have BK413:=n3_
      have BK414:=n4_
      have HB:=n5_
      have HO426:=n6_
      clear n0_ n1_ n2_ n3_ n4_ n5_ n6_
      clear ho hb hg hat
      obtain ⟨Ao28,co28,eo28⟩:=Kd.R_slice HO426.out
      (first|subst eo28|(injection eo28 with f1_ f2_ f3_;have f4_:=f1_.symm;have f5_:=f3_.symm;clear f1_ f2_ f3_;subst f4_;subst f5_))
      refine hK.out _ _ ⟨(kC BK414.out 0).trans rfl,(kC BK414.out 1).trans rfl,(kC BK414.out 2).trans rfl,(kC BK414.out 3).trans rfl,(kC BK414.out 4).trans rfl,(kC BK413.out 0).trans rfl,(kC BK413.out 1).trans rfl,(kC BK413.out 2).trans rfl,(kC BK413.out 3).trans rfl,(kC BK413.out 4).trans rfl⟩ (fun hHeld => ?_)
      clear hK K
      refine norm_ (a':=?_) ?_ ?_
      rotate_left
      ·show Act.put _ (some 61) _ = _
       simp only [Act.put,pS]
       rfl
      refine pure_ (i:=20) (N:=some 62) (v:=?_) (a':=?_) #[true,true,true,true,true,true,true,true,true,true,true,true,true,true,true,true,true,true,true,true,true,false] rfl rfl (any_of HT_.out (by kernel_rfl)) (fun _ _ _ h => h) (Or.inl ⟨by rfl,?_⟩) ?_ ?_
      rotate_left
      ·intro w'
       go_simp
       with_reducible rfl
      rotate_left
      ·simp only [Act.put,pS]
       rfl
      refine last_ (i:=21) (N:=none) #[true,true,true,true,true,true,true,true,true,true,true,true,true,true,true,true,true,true,true,true,true,true] rfl rfl (one_of HT_.out (by kernel_rfl)) (by decide) (fun K hK => ?_)
      have hs29 : w27.cell? ⟨gb414,1,none⟩ = some (.slice Ao19 y418.length co19):=(kC BK414.out 1).trans rfl
      have hfs29:=kF BK414.out 1
      have hns29_0:=NB413_414.out
      have hms29_0:=NB414_413.out
      refine skip_ (w1:=?_) (by rfl) rfl ?_ ?_
      rotate_left
      ·go_simp
       rfl
      refine hK.out _ _ ?_
      clear hK K
      refine done_ (done_of HT_.out (by kernel_rfl)) ?_
      try go_wp2
      go_meet
      case rel => exact ⟨_,(y424),(t406),(t407),(.slice Ao28 y424.length co28),H',⟨by first|omega|exact Nat.le_refl _⟩,⟨by (with_reducible repeat (first|apply Kd.R_alloc|apply Kd.R_drewN|apply Kd.R_drew));exact Kd.R_mono (Kd.R_far (p:=⟨gb414,1,none⟩) (Kd.R_types HO402.out BK414.out (by decide)) (fun _ hk => hk.2) (.slice Ao28 y424.length co28)) (fun _ hk => trivial)⟩,⟨by (with_reducible repeat (first|apply Kd.R_alloc|apply Kd.R_drewN|apply Kd.R_drew));exact Kd.R_mono (Kd.R_far (p:=⟨gb414,1,none⟩) (Kd.R_types HO405.out BK414.out (by decide)) (fun _ hk => hk.2) (.slice Ao28 y424.length co28)) (fun _ hk => hk.1.2)⟩,⟨by (with_reducible repeat (first|apply Kd.R_alloc|apply Kd.R_drewN|apply Kd.R_drew));exact Kd.R_mono (Kd.R_far (p:=⟨gb414,1,none⟩) (Kd.R_types HO402.out BK414.out (by decide)) (fun _ hk => hk.2) (.slice Ao28 y424.length co28)) (fun _ hk => trivial)⟩,⟨by (with_reducible repeat (first|apply Kd.R_alloc|apply Kd.R_drewN|apply Kd.R_drew));exact Kd.R_mono (Kd.R_far (p:=⟨gb414,1,none⟩) (Kd.R_types HO426.out BK414.out (by decide)) (fun _ hk => hk.2) (.slice Ao28 y424.length co28)) (fun _ hk => hk.1)⟩,⟨by (with_reducible repeat (first|refine kN ?_ _|refine kD ?_|refine kA ?_ _));refine blk_far ?_ NB413_414.out _;(with_reducible repeat (first|refine kN ?_ _|refine kD ?_|refine kA ?_ _));exact BK413.out⟩,⟨by (with_reducible repeat (first|refine kN ?_ _|refine kD ?_|refine kA ?_ _));refine blk_put (cs:=#[.slice Ao9 t400.length co9,.slice Ao19 y418.length co19,.int .i64 t406,.int .i64 t407,.int .i64 t408]) ?_ 1 _ rfl;(with_reducible repeat (first|refine kN ?_ _|refine kD ?_|refine kA ?_ _));exact BK414.out⟩,⟨by repeat (first|(with_reducible first|exact HB.out|apply bA|apply bN|apply bD|refine bS ?_ GE413.out|refine bS ?_ GE414.out)|exact HB.out)⟩⟩
     ·rw [if_neg c24] at H
      exact absurd H (by simp)
    ·rw [if_neg c21] at H
     have c21b0 : ((Int.tmod t421 3) == 0) = false:=beq_eq_false_iff_ne.mpr c21
     have c21b1 : ((Int.tmod t421 3) != 0) = true:=bne_iff_ne.mpr c21
     (first|rw [c21b0]|(simp only [i64_w,i32_w];rw [c21b0])|skip)
     by_cases c30 : (Int.tmod t421 3) = 1
     ·rw [if_pos c30] at H
      have c30b0 : ((Int.tmod t421 3) == 1) = true:=beq_iff_eq.mpr c30
      have c30b1 : ((Int.tmod t421 3) != 1) = false:=bne_eq_false_iff_eq.mpr c30
      clear c30
      replace H:=Option.bind_eq_some_iff.mp H
      obtain ⟨t427,A310,H⟩:=H
      replace H : (laws_FnTight.j0 k l0 t409 t400 t403 t406 t407 t408 t400 y418 (wrap64 (t406 + t427)) t407 t408) = some r:=H
      have A31:=Am A310
      clear A310
      have H':=Am H
      clear H
      try go_wp2
      have n0_ : As (Kd.R k39 39 (w18.setCell ⟨gb414,1,none⟩ (.slice Ao19 y418.length co19)) w.heap.size (fun _ => True) (.slice Ao9 t400.length co9) t400):=⟨by (with_reducible repeat (first|apply Kd.R_alloc|apply Kd.R_drewN|apply Kd.R_drew));exact Kd.R_mono (Kd.R_far (p:=⟨gb414,1,none⟩) (Kd.R_types HO402.out BK414.out (by decide)) (fun _ hk => hk.2) (.slice Ao19 y418.length co19)) (fun _ hk => trivial)⟩
      have n1_ : As (Kd.R k45 45 (w18.setCell ⟨gb414,1,none⟩ (.slice Ao19 y418.length co19)) w.heap.size (fun k_ => some k_ ≠ (.slice Ao19 y418.length co19 : Value).ownBlock) (.slice Ao11 t403.length co11) t403):=⟨by (with_reducible repeat (first|apply Kd.R_alloc|apply Kd.R_drewN|apply Kd.R_drew));exact Kd.R_mono (Kd.R_far (p:=⟨gb414,1,none⟩) (Kd.R_types HO405.out BK414.out (by decide)) (fun _ hk => hk.2) (.slice Ao19 y418.length co19)) (fun _ hk => hk.1.2)⟩
      have n2_ : As (Kd.R (Kd.int .i64) 3 (w18.setCell ⟨gb414,1,none⟩ (.slice Ao19 y418.length co19)) w.heap.size (fun _ => True) v411 t410):=⟨by (with_reducible repeat (first|apply Kd.R_alloc|apply Kd.R_drewN|apply Kd.R_drew));exact Kd.R_mono (Kd.R_far (p:=⟨gb414,1,none⟩) (Kd.R_types HO412.out BK414.out (by decide)) (fun _ hk => hk.2) (.slice Ao19 y418.length co19)) (fun _ hk => trivial)⟩
      have n3_ : As (Kd.R k45 45 (w18.setCell ⟨gb414,1,none⟩ (.slice Ao19 y418.length co19)) w.heap.size (fun k_ => some k_ ≠ (.slice Ao11 t403.length co11 : Value).ownBlock) (.slice Ao19 y418.length co19) y418):=⟨by (with_reducible repeat (first|apply Kd.R_alloc|apply Kd.R_drewN|apply Kd.R_drew));exact Kd.R_mono (Kd.R_far (p:=⟨gb414,1,none⟩) (Kd.R_types HO420.out BK414.out (by decide)) (fun _ hk => hk.2) (.slice Ao19 y418.length co19)) (fun _ hk => hk.1)⟩
      have n4_ : As ((w18.setCell ⟨gb414,1,none⟩ (.slice Ao19 y418.length co19)).heap[gb413]? = some (.cells #[.slice Ao9 t400.length co9,.slice Ao11 t403.length co11,.int .i64 t406,.int .i64 t407,.int .i64 t408] 26 (0,0))):=⟨by (with_reducible repeat (first|refine kN ?_ _|refine kD ?_|refine kA ?_ _));refine blk_far ?_ NB413_414.out _;(with_reducible repeat (first|refine kN ?_ _|refine kD ?_|refine kA ?_ _));exact BK413.out⟩
      have n5_ : As ((w18.setCell ⟨gb414,1,none⟩ (.slice Ao19 y418.length co19)).heap[gb414]? = some (.cells #[.slice Ao9 t400.length co9,.slice Ao19 y418.length co19,.int .i64 t406,.int .i64 t407,.int .i64 t408] 26 (0,0))):=⟨by (with_reducible repeat (first|refine kN ?_ _|refine kD ?_|refine kA ?_ _));refine blk_put (cs:=#[.slice Ao9 t400.length co9,.slice Ao11 t403.length co11,.int .i64 t406,.int .i64 t407,.int .i64 t408]) ?_ 1 _ rfl;(with_reducible repeat (first|refine kN ?_ _|refine kD ?_|refine kA ?_ _));exact BK414.out⟩
      have n6_ : As (Below w.heap.size w (w18.setCell ⟨gb414,1,none⟩ (.slice Ao19 y418.length co19))):=⟨by repeat (first|(with_reducible first|exact HB.out|apply bA|apply bN|apply bD|refine bS ?_ GE413.out|refine bS ?_ GE414.out)|exact HB.out)⟩
      (try clear HO402)
      (try clear HO405)
      (try clear HO412)
      (try clear HO420)
      (try clear BK413)
      (try clear BK414)
      (try clear HB)
      generalize (w18.setCell ⟨gb414,1,none⟩ (.slice Ao19 y418.length co19)) = w32 at n0_ n1_ n2_ n3_ n4_ n5_ n6_ ⊢
      have HO402:=n0_
      have HO405:=n1_
      have HO412:=n2_
      have HO420:=n3_
      have BK413:=n4_
      have BK414:=n5_
      have HB:=n6_
      clear n0_ n1_ n2_ n3_ n4_ n5_ n6_
      have n0_:=Am (Kd.R_drewN HO402.out nd)
      have n1_:=Am (Kd.R_drewN HO405.out nd)
      have n2_:=Am (Kd.R_drewN HO412.out nd)
      have n3_:=Am (Kd.R_drewN HO420.out nd)
      have n4_:=Am (kN BK413.out nd)
      have n5_:=Am (kN BK414.out nd)
      have n6_:=Am (bN HB.out nd)
      clear HO402
      clear HO405
      clear HO412
      clear HO420
      clear BK413
      clear BK414
      clear HB
      generalize w32.drewN nd = w32 at n0_ n1_ n2_ n3_ n4_ n5_ n6_ ⊢
      have HO402:=n0_
      have HO405:=n1_
      have HO412:=n2_
      have HO420:=n3_
      have BK413:=n4_
      have BK414:=n5_
      have HB:=n6_
      clear n0_ n1_ n2_ n3_ n4_ n5_ n6_
      have n0_:=Am (Kd.R_drew HO402.out)
      have n1_:=Am (Kd.R_drew HO405.out)
      have n2_:=Am (Kd.R_drew HO412.out)
      have n3_:=Am (Kd.R_drew HO420.out)
      have n4_:=Am (kD BK413.out)
      have n5_:=Am (kD BK414.out)
      have n6_:=Am (bD HB.out)
      clear HO402
      clear HO405
      clear HO412
      clear HO420
      clear BK413
      clear BK414
      clear HB
      have HO402:=n0_
      have HO405:=n1_
      have HO412:=n2_
      have HO420:=n3_
      have BK413:=n4_
      have BK414:=n5_
      have HB:=n6_
      clear n0_ n1_ n2_ n3_ n4_ n5_ n6_
      refine start_ (n:=7) (S:=fun w' => w'.cell? ⟨gb414,0,none⟩ = some (.slice Ao9 t400.length co9)∧w'.cell? ⟨gb414,1,none⟩ = some (.slice Ao19 y418.length co19)∧w'.cell? ⟨gb414,2,none⟩ = some (.int .i64 t406)∧w'.cell? ⟨gb414,3,none⟩ = some (.int .i64 t407)∧w'.cell? ⟨gb414,4,none⟩ = some (.int .i64 t408)) (ds:=[6]) #[false,false,false,false,false,false,false] (by kernel_rfl) rfl rfl ⟨(kC BK414.out 0).trans rfl,(kC BK414.out 1).trans rfl,(kC BK414.out 2).trans rfl,(kC BK414.out 3).trans rfl,(kC BK414.out 4).trans rfl⟩ (fun hHeld => ?_)
      generalize w32.drew = w33 at HO402 HO405 HO412 HO420 BK413 BK414 HB hHeld ⊢
      refine pure_ (i:=0) (N:=some 65) (v:=?_) (a':=?_) #[true,false,false,false,false,false,false] rfl rfl (by kernel_rfl) (fun _ _ _ h => h) (Or.inl ⟨by rfl,?_⟩) ?_ ?_
      rotate_left
      ·intro w'
       go_simp
       with_reducible rfl
      rotate_left
      ·simp only [Act.put,pS]
       rfl
      refine pure_ (i:=2) (N:=some 67) (v:=?_) (a':=?_) #[true,false,true,false,false,false,false] rfl rfl (by kernel_rfl) (fun _ _ _ h => h) (Or.inl ⟨by rfl,?_⟩) ?_ ?_
      rotate_left
      ·intro w'
       go_simp
       with_reducible rfl
      rotate_left
      ·simp only [Act.put,pS]
       rfl
      refine take_ (i:=1) (N:=some 66) (v:=?_) (a':=?_) #[true,true,true,false,false,false,false] rfl rfl (by kernel_rfl) (fun _ _ _ h => h) (Or.inl ⟨by rfl,?_⟩) hHeld ?_ ?_
      rotate_left
      ·rintro w' ⟨s0,s1,s2,s3,s4⟩
       go_simp
       with_reducible rfl
      rotate_left
      ·simp only [Act.put,pS]
       rfl
      refine one_ (i:=3) (N:=some 68) #[true,true,true,true,false,false,false] rfl rfl (by kernel_rfl) (by decide) (fun K hK => ?_)
      refine goes_ Try.func15 (by kernel_rfl) rfl #[.slice A0 l0.length c0,.int .i64 1] (by rfl) rfl rfl (by (try simp only [List.map_toArray,List.map_cons,List.map_nil]);first|done|rfl|(simp only [List.length_drop,List.length_take];rfl)) ?_
      with_reducible refine (laws_wByte.calls _ _ l0 1 t427 _ ?side1 ?side2 A31.out).mono ?_
      (case side1 => repeat (first|exact (Kd.C_below HR0.out HB.out)|(with_reducible refine Kd.C_alloc ?_ _)|(with_reducible refine Kd.C_drewN ?_ _)|(with_reducible refine Kd.C_drew ?_)))
      (case side2 => exact HC0.out)
      rintro e w' ⟨rfl,⟨nd,rfl⟩⟩
      refine ⟨_,rfl,?_⟩
      refine hK.out _ _ ⟨(kC BK414.out 0).trans rfl,(kC BK414.out 1).trans rfl,(kC BK414.out 2).trans rfl,(kC BK414.out 3).trans rfl,(kC BK414.out 4).trans rfl⟩ (fun hHeld => ?_)
      clear hK K
      refine norm_ (a':=?_) ?_ ?_
      rotate_left
      ·show Act.put _ (some 68) _ = _
       simp only [Act.put,pS]
       rfl
      refine pure_ (i:=4) (N:=some 69) (v:=?_) (a':=?_) #[true,true,true,true,true,false,false] rfl rfl (by kernel_rfl) (fun _ _ _ h => h) (Or.inl ⟨by rfl,?_⟩) ?_ ?_
      rotate_left
      ·intro w'
       go_simp
       with_reducible rfl
      rotate_left
      ·simp only [Act.put,pS]
       rfl
      refine pure_ (i:=5) (N:=some 70) (v:=?_) (a':=?_) #[true,true,true,true,true,true,false] rfl rfl (by kernel_rfl) (fun _ _ _ h => h) (Or.inl ⟨by rfl,?_⟩) ?_ ?_
      rotate_left
      ·intro w'
       go_simp
       with_reducible rfl
      rotate_left
      ·simp only [Act.put,pS]
       rfl
      refine last_ (i:=6) (N:=none) #[true,true,true,true,true,true,true] rfl rfl (by kernel_rfl) (by decide) (fun K hK => ?_)
      have hs34 : w33.cell? ⟨gb414,2,none⟩ = some (.int .i64 t406):=(kC BK414.out 2).trans rfl
      have hfs34:=kF BK414.out 2
      have hns34_0:=NB413_414.out
      have hms34_0:=NB414_413.out
      refine skip_ (w1:=?_) (by rfl) rfl ?_ ?_
      rotate_left
      ·go_simp
       rfl
      refine hK.out _ _ ?_
      clear hK K
      refine done_ (by kernel_rfl) ?_
      try go_wp2
      go_meet
      case rel => exact ⟨_,(y418),(wrap64 (t406 + t427)),(t407),(.slice Ao19 y418.length co19),H',⟨by first|omega|exact Nat.le_refl _⟩,⟨by (with_reducible repeat (first|apply Kd.R_alloc|apply Kd.R_drewN|apply Kd.R_drew));exact Kd.R_mono (Kd.R_far (p:=⟨gb414,2,none⟩) (Kd.R_types HO402.out BK414.out (by decide)) (fun _ hk => hk.2) (.int .i64 (wrap64 (t406 + t427)))) (fun _ hk => trivial)⟩,⟨by (with_reducible repeat (first|apply Kd.R_alloc|apply Kd.R_drewN|apply Kd.R_drew));exact Kd.R_mono (Kd.R_far (p:=⟨gb414,2,none⟩) (Kd.R_types HO405.out BK414.out (by decide)) (fun _ hk => hk.2) (.int .i64 (wrap64 (t406 + t427)))) (fun _ hk => hk.1)⟩,⟨by (with_reducible repeat (first|apply Kd.R_alloc|apply Kd.R_drewN|apply Kd.R_drew));exact Kd.R_mono (Kd.R_far (p:=⟨gb414,2,none⟩) (Kd.R_types HO402.out BK414.out (by decide)) (fun _ hk => hk.2) (.int .i64 (wrap64 (t406 + t427)))) (fun _ hk => trivial)⟩,⟨by (with_reducible repeat (first|apply Kd.R_alloc|apply Kd.R_drewN|apply Kd.R_drew));exact Kd.R_mono (Kd.R_far (p:=⟨gb414,2,none⟩) (Kd.R_types HO420.out BK414.out (by decide)) (fun _ hk => hk.2) (.int .i64 (wrap64 (t406 + t427)))) (fun _ hk => hk.1)⟩,⟨by (with_reducible repeat (first|refine kN ?_ _|refine kD ?_|refine kA ?_ _));refine blk_far ?_ NB413_414.out _;(with_reducible repeat (first|refine kN ?_ _|refine kD ?_|refine kA ?_ _));exact BK413.out⟩,⟨by (with_reducible repeat (first|refine kN ?_ _|refine kD ?_|refine kA ?_ _));refine blk_put (cs:=#[.slice Ao9 t400.length co9,.slice Ao19 y418.length co19,.int .i64 t406,.int .i64 t407,.int .i64 t408]) ?_ 2 _ rfl;(with_reducible repeat (first|refine kN ?_ _|refine kD ?_|refine kA ?_ _));exact BK414.out⟩,⟨by repeat (first|(with_reducible first|exact HB.out|apply bA|apply bN|apply bD|refine bS ?_ GE413.out|refine bS ?_ GE414.out)|exact HB.out)⟩⟩
     ·rw [if_neg c30] at H
      have c30b0 : ((Int.tmod t421 3) == 1) = false:=beq_eq_false_iff_ne.mpr c30
      have c30b1 : ((Int.tmod t421 3) != 1) = true:=bne_iff_ne.mpr c30
      replace H:=Option.bind_eq_some_iff.mp H
      obtain ⟨t428,A350,H⟩:=H
      replace H : (laws_FnTight.j0 k l0 t409 t400 t403 t406 t407 t408 t400 y418 t406 (wrap64 (t407 - (wrap64 (Int.tdiv (wrap64 ((wrap64 (t407 - t409)) * (Int.tmod t428 5))) 8)))) t408) = some r:=H
      have A35:=Am A350
      clear A350
      have H':=Am H
      clear H
      try go_wp2
      have n0_ : As (Kd.R k39 39 (w18.setCell ⟨gb414,1,none⟩ (.slice Ao19 y418.length co19)) w.heap.size (fun _ => True) (.slice Ao9 t400.length co9) t400):=⟨by (with_reducible repeat (first|apply Kd.R_alloc|apply Kd.R_drewN|apply Kd.R_drew));exact Kd.R_mono (Kd.R_far (p:=⟨gb414,1,none⟩) (Kd.R_types HO402.out BK414.out (by decide)) (fun _ hk => hk.2) (.slice Ao19 y418.length co19)) (fun _ hk => trivial)⟩
      have n1_ : As (Kd.R k45 45 (w18.setCell ⟨gb414,1,none⟩ (.slice Ao19 y418.length co19)) w.heap.size (fun k_ => some k_ ≠ (.slice Ao19 y418.length co19 : Value).ownBlock) (.slice Ao11 t403.length co11) t403):=⟨by (with_reducible repeat (first|apply Kd.R_alloc|apply Kd.R_drewN|apply Kd.R_drew));exact Kd.R_mono (Kd.R_far (p:=⟨gb414,1,none⟩) (Kd.R_types HO405.out BK414.out (by decide)) (fun _ hk => hk.2) (.slice Ao19 y418.length co19)) (fun _ hk => hk.1.2)⟩
      have n2_ : As (Kd.R (Kd.int .i64) 3 (w18.setCell ⟨gb414,1,none⟩ (.slice Ao19 y418.length co19)) w.heap.size (fun _ => True) v411 t410):=⟨by (with_reducible repeat (first|apply Kd.R_alloc|apply Kd.R_drewN|apply Kd.R_drew));exact Kd.R_mono (Kd.R_far (p:=⟨gb414,1,none⟩) (Kd.R_types HO412.out BK414.out (by decide)) (fun _ hk => hk.2) (.slice Ao19 y418.length co19)) (fun _ hk => trivial)⟩
      have n3_ : As (Kd.R k45 45 (w18.setCell ⟨gb414,1,none⟩ (.slice Ao19 y418.length co19)) w.heap.size (fun k_ => some k_ ≠ (.slice Ao11 t403.length co11 : Value).ownBlock) (.slice Ao19 y418.length co19) y418):=⟨by (with_reducible repeat (first|apply Kd.R_alloc|apply Kd.R_drewN|apply Kd.R_drew));exact Kd.R_mono (Kd.R_far (p:=⟨gb414,1,none⟩) (Kd.R_types HO420.out BK414.out (by decide)) (fun _ hk => hk.2) (.slice Ao19 y418.length co19)) (fun _ hk => hk.1)⟩
      have n4_ : As ((w18.setCell ⟨gb414,1,none⟩ (.slice Ao19 y418.length co19)).heap[gb413]? = some (.cells #[.slice Ao9 t400.length co9,.slice Ao11 t403.length co11,.int .i64 t406,.int .i64 t407,.int .i64 t408] 26 (0,0))):=⟨by (with_reducible repeat (first|refine kN ?_ _|refine kD ?_|refine kA ?_ _));refine blk_far ?_ NB413_414.out _;(with_reducible repeat (first|refine kN ?_ _|refine kD ?_|refine kA ?_ _));exact BK413.out⟩
      have n5_ : As ((w18.setCell ⟨gb414,1,none⟩ (.slice Ao19 y418.length co19)).heap[gb414]? = some (.cells #[.slice Ao9 t400.length co9,.slice Ao19 y418.length co19,.int .i64 t406,.int .i64 t407,.int .i64 t408] 26 (0,0))):=⟨by (with_reducible repeat (first|refine kN ?_ _|refine kD ?_|refine kA ?_ _));refine blk_put (cs:=#[.slice Ao9 t400.length co9,.slice Ao11 t403.length co11,.int .i64 t406,.int .i64 t407,.int .i64 t408]) ?_ 1 _ rfl;(with_reducible repeat (first|refine kN ?_ _|refine kD ?_|refine kA ?_ _));exact BK414.out⟩
      have n6_ : As (Below w.heap.size w (w18.setCell ⟨gb414,1,none⟩ (.slice Ao19 y418.length co19))):=⟨by repeat (first|(with_reducible first|exact HB.out|apply bA|apply bN|apply bD|refine bS ?_ GE413.out|refine bS ?_ GE414.out)|exact HB.out)⟩
      (try clear HO402)
      (try clear HO405)
      (try clear HO412)
      (try clear HO420)
      (try clear BK413)
      (try clear BK414)
      (try clear HB)
      generalize (w18.setCell ⟨gb414,1,none⟩ (.slice Ao19 y418.length co19)) = w36 at n0_ n1_ n2_ n3_ n4_ n5_ n6_ ⊢
      have HO402:=n0_
      have HO405:=n1_
      have HO412:=n2_
      have HO420:=n3_
      have BK413:=n4_
      have BK414:=n5_
      have HB:=n6_
      clear n0_ n1_ n2_ n3_ n4_ n5_ n6_
      have n0_:=Am (Kd.R_drewN HO402.out nd)
      have n1_:=Am (Kd.R_drewN HO405.out nd)
      have n2_:=Am (Kd.R_drewN HO412.out nd)
      have n3_:=Am (Kd.R_drewN HO420.out nd)
      have n4_:=Am (kN BK413.out nd)
      have n5_:=Am (kN BK414.out nd)
      have n6_:=Am (bN HB.out nd)
      clear HO402
      clear HO405
      clear HO412
      clear HO420
      clear BK413
      clear BK414
      clear HB
      generalize w36.drewN nd = w36 at n0_ n1_ n2_ n3_ n4_ n5_ n6_ ⊢
      have HO402:=n0_
      have HO405:=n1_
      have HO412:=n2_
      have HO420:=n3_
      have BK413:=n4_
      have BK414:=n5_
      have HB:=n6_
      clear n0_ n1_ n2_ n3_ n4_ n5_ n6_
      have n0_:=Am (Kd.R_drew HO402.out)
      have n1_:=Am (Kd.R_drew HO405.out)
      have n2_:=Am (Kd.R_drew HO412.out)
      have n3_:=Am (Kd.R_drew HO420.out)
      have n4_:=Am (kD BK413.out)
      have n5_:=Am (kD BK414.out)
      have n6_:=Am (bD HB.out)
      clear HO402
      clear HO405
      clear HO412
      clear HO420
      clear BK413
      clear BK414
      clear HB
      have HO402:=n0_
      have HO405:=n1_
      have HO412:=n2_
      have HO420:=n3_
      have BK413:=n4_
      have BK414:=n5_
      have HB:=n6_
      clear n0_ n1_ n2_ n3_ n4_ n5_ n6_
      refine start_ (n:=14) (S:=fun w' => w'.cell? ⟨gb414,0,none⟩ = some (.slice Ao9 t400.length co9)∧w'.cell? ⟨gb414,1,none⟩ = some (.slice Ao19 y418.length co19)∧w'.cell? ⟨gb414,2,none⟩ = some (.int .i64 t406)∧w'.cell? ⟨gb414,3,none⟩ = some (.int .i64 t407)∧w'.cell? ⟨gb414,4,none⟩ = some (.int .i64 t408)) (ds:=[13]) #[false,false,false,false,false,false,false,false,false,false,false,false,false,false] (by kernel_rfl) rfl rfl ⟨(kC BK414.out 0).trans rfl,(kC BK414.out 1).trans rfl,(kC BK414.out 2).trans rfl,(kC BK414.out 3).trans rfl,(kC BK414.out 4).trans rfl⟩ (fun hHeld => ?_);refine with_tabW laws_FnTight.tab7 laws_FnTight.bits7 (fun HT_ HW_ => ?_)
      generalize w36.drew = w37 at HO402 HO405 HO412 HO420 BK413 BK414 HB hHeld ⊢
      refine pure_ (i:=0) (N:=some 27) (v:=?_) (a':=?_) #[true,false,false,false,false,false,false,false,false,false,false,false,false,false] rfl rfl (any_of HT_.out (by kernel_rfl)) (fun _ _ _ h => h) (Or.inl ⟨by rfl,?_⟩) ?_ ?_
      rotate_left
      ·intro w'
       go_simp
       with_reducible rfl
      rotate_left
      ·simp only [Act.put,pS]
       rfl
      refine pure_ (i:=2) (N:=some 29) (v:=?_) (a':=?_) #[true,false,true,false,false,false,false,false,false,false,false,false,false,false] rfl rfl (any_of HT_.out (by kernel_rfl)) (fun _ _ _ h => h) (Or.inl ⟨by rfl,?_⟩) ?_ ?_
      rotate_left
      ·intro w'
       go_simp
       with_reducible rfl
      rotate_left
      ·simp only [Act.put,pS]
       rfl
      refine pure_ (i:=4) (N:=some 31) (v:=?_) (a':=?_) #[true,false,true,false,true,false,false,false,false,false,false,false,false,false] rfl rfl (any_of HT_.out (by kernel_rfl)) (fun _ _ _ h => h) (Or.inl ⟨by rfl,?_⟩) ?_ ?_
      rotate_left
      ·intro w'
       go_simp
       with_reducible rfl
      rotate_left
      ·simp only [Act.put,pS]
       rfl
      refine pure_ (i:=6) (N:=some 33) (v:=?_) (a':=?_) #[true,false,true,false,true,false,true,false,false,false,false,false,false,false] rfl rfl (any_of HT_.out (by kernel_rfl)) (fun _ _ _ h => h) (Or.inl ⟨by rfl,?_⟩) ?_ ?_
      rotate_left
      ·intro w'
       go_simp
       with_reducible rfl
      rotate_left
      ·simp only [Act.put,pS]
       rfl
      refine take_ (i:=1) (N:=some 28) (v:=?_) (a':=?_) #[true,true,true,false,true,false,true,false,false,false,false,false,false,false] rfl rfl (take_ofW HT_.out HW_.out (by kernel_rfl)) (fun _ _ _ h => h) (Or.inl ⟨by rfl,?_⟩) hHeld ?_ ?_
      rotate_left
      ·rintro w' ⟨s0,s1,s2,s3,s4⟩
       go_simp
       with_reducible rfl
      rotate_left
      ·simp only [Act.put,pS]
       rfl
      refine take_ (i:=3) (N:=some 30) (v:=?_) (a':=?_) #[true,true,true,true,true,false,true,false,false,false,false,false,false,false] rfl rfl (take_ofW HT_.out HW_.out (by kernel_rfl)) (fun _ _ _ h => h) (Or.inl ⟨by rfl,?_⟩) hHeld ?_ ?_
      rotate_left
      ·rintro w' ⟨s0,s1,s2,s3,s4⟩
       go_simp
       with_reducible rfl
      rotate_left
      ·simp only [Act.put,pS]
       rfl
      refine pure_ (i:=5) (N:=some 32) (v:=?_) (a':=?_) #[true,true,true,true,true,true,true,false,false,false,false,false,false,false] rfl rfl (any_of HT_.out (by kernel_rfl)) (fun _ _ _ h => h) (Or.inl ⟨by rfl,?_⟩) ?_ ?_
      rotate_left
      ·intro w'
       go_simp
       with_reducible rfl
      rotate_left
      ·simp only [Act.put,pS]
       rfl
      refine one_ (i:=7) (N:=some 34) #[true,true,true,true,true,true,true,true,false,false,false,false,false,false] rfl rfl (one_of HT_.out (by kernel_rfl)) (by decide) (fun K hK => ?_)
      refine goes_ Try.func15 (by kernel_rfl) rfl #[.slice A0 l0.length c0,.int .i64 1] (by rfl) rfl rfl (by (try simp only [List.map_toArray,List.map_cons,List.map_nil]);first|done|rfl|(simp only [List.length_drop,List.length_take];rfl)) ?_
      with_reducible refine (laws_wByte.calls _ _ l0 1 t428 _ ?side1 ?side2 A35.out).mono ?_
      (case side1 => repeat (first|exact (Kd.C_below HR0.out HB.out)|(with_reducible refine Kd.C_alloc ?_ _)|(with_reducible refine Kd.C_drewN ?_ _)|(with_reducible refine Kd.C_drew ?_)))
      (case side2 => exact HC0.out)
      rintro e w' ⟨rfl,⟨nd,rfl⟩⟩
      refine ⟨_,rfl,?_⟩
      refine hK.out _ _ ⟨(kC BK414.out 0).trans rfl,(kC BK414.out 1).trans rfl,(kC BK414.out 2).trans rfl,(kC BK414.out 3).trans rfl,(kC BK414.out 4).trans rfl⟩ (fun hHeld => ?_)
      clear hK K
      refine norm_ (a':=?_) ?_ ?_
      rotate_left
      ·show Act.put _ (some 34) _ = _
       simp only [Act.put,pS]
       rfl
      refine pure_ (i:=8) (N:=some 35) (v:=?_) (a':=?_) #[true,true,true,true,true,true,true,true,true,false,false,false,false,false] rfl rfl (any_of HT_.out (by kernel_rfl)) (fun _ _ _ h => h) (Or.inl ⟨by rfl,?_⟩) ?_ ?_
      rotate_left
      ·intro w'
       go_simp
       with_reducible rfl
      rotate_left
      ·simp only [Act.put,pS]
       rfl
      refine pure_ (i:=9) (N:=some 36) (v:=?_) (a':=?_) #[true,true,true,true,true,true,true,true,true,true,false,false,false,false] rfl rfl (any_of HT_.out (by kernel_rfl)) (fun _ _ _ h => h) (Or.inl ⟨by rfl,?_⟩) ?_ ?_
      rotate_left
      ·intro w'
       go_simp
       with_reducible rfl
      rotate_left
      ·simp only [Act.put,pS]
       rfl
      refine pure_ (i:=10) (N:=some 37) (v:=?_) (a':=?_) #[true,true,true,true,true,true,true,true,true,true,true,false,false,false] rfl rfl (any_of HT_.out (by kernel_rfl)) (fun _ _ _ h => h) (Or.inl ⟨by rfl,?_⟩) ?_ ?_
      rotate_left
      ·intro w'
       go_simp
       with_reducible rfl
      rotate_left
      ·simp only [Act.put,pS]
       rfl
      refine pure_ (i:=11) (N:=some 38) (v:=?_) (a':=?_) #[true,true,true,true,true,true,true,true,true,true,true,true,false,false] rfl rfl (any_of HT_.out (by kernel_rfl)) (fun _ _ _ h => h) (Or.inl ⟨by rfl,?_⟩) ?_ ?_
      rotate_left
      ·intro w'
       go_simp
       with_reducible rfl
      rotate_left
      ·simp only [Act.put,pS]
       rfl
      refine pure_ (i:=12) (N:=some 39) (v:=?_) (a':=?_) #[true,true,true,true,true,true,true,true,true,true,true,true,true,false] rfl rfl (any_of HT_.out (by kernel_rfl)) (fun _ _ _ h => h) (Or.inl ⟨by rfl,?_⟩) ?_ ?_
      rotate_left
      ·intro w'
       go_simp
       with_reducible rfl
      rotate_left
      ·simp only [Act.put,pS]
       rfl
      refine last_ (i:=13) (N:=none) #[true,true,true,true,true,true,true,true,true,true,true,true,true,true] rfl rfl (one_of HT_.out (by kernel_rfl)) (by decide) (fun K hK => ?_)
      have hs38 : w37.cell? ⟨gb414,3,none⟩ = some (.int .i64 t407):=(kC BK414.out 3).trans rfl
      have hfs38:=kF BK414.out 3
      have hns38_0:=NB413_414.out
      have hms38_0:=NB414_413.out
      refine skip_ (w1:=?_) (by rfl) rfl ?_ ?_
      rotate_left
      ·go_simp
       rfl
      refine hK.out _ _ ?_
      clear hK K
      refine done_ (done_of HT_.out (by kernel_rfl)) ?_
      try go_wp2
      go_meet
      case rel => exact ⟨_,(y418),(t406),(wrap64 (t407 - (wrap64 (Int.tdiv (wrap64 ((wrap64 (t407 - t409)) * (Int.tmod t428 5))) 8)))),(.slice Ao19 y418.length co19),H',⟨by first|omega|exact Nat.le_refl _⟩,⟨by (with_reducible repeat (first|apply Kd.R_alloc|apply Kd.R_drewN|apply Kd.R_drew));exact Kd.R_mono (Kd.R_far (p:=⟨gb414,3,none⟩) (Kd.R_types HO402.out BK414.out (by decide)) (fun _ hk => hk.2) (.int .i64 (wrap64 (t407 - (wrap64 (Int.tdiv (wrap64 ((wrap64 (t407 - t409)) * (Int.tmod t428 5))) 8)))))) (fun _ hk => trivial)⟩,⟨by (with_reducible repeat (first|apply Kd.R_alloc|apply Kd.R_drewN|apply Kd.R_drew));exact Kd.R_mono (Kd.R_far (p:=⟨gb414,3,none⟩) (Kd.R_types HO405.out BK414.out (by decide)) (fun _ hk => hk.2) (.int .i64 (wrap64 (t407 - (wrap64 (Int.tdiv (wrap64 ((wrap64 (t407 - t409)) * (Int.tmod t428 5))) 8)))))) (fun _ hk => hk.1)⟩,⟨by (with_reducible repeat (first|apply Kd.R_alloc|apply Kd.R_drewN|apply Kd.R_drew));exact Kd.R_mono (Kd.R_far (p:=⟨gb414,3,none⟩) (Kd.R_types HO402.out BK414.out (by decide)) (fun _ hk => hk.2) (.int .i64 (wrap64 (t407 - (wrap64 (Int.tdiv (wrap64 ((wrap64 (t407 - t409)) * (Int.tmod t428 5))) 8)))))) (fun _ hk => trivial)⟩,⟨by (with_reducible repeat (first|apply Kd.R_alloc|apply Kd.R_drewN|apply Kd.R_drew));exact Kd.R_mono (Kd.R_far (p:=⟨gb414,3,none⟩) (Kd.R_types HO420.out BK414.out (by decide)) (fun _ hk => hk.2) (.int .i64 (wrap64 (t407 - (wrap64 (Int.tdiv (wrap64 ((wrap64 (t407 - t409)) * (Int.tmod t428 5))) 8)))))) (fun _ hk => hk.1)⟩,⟨by (with_reducible repeat (first|refine kN ?_ _|refine kD ?_|refine kA ?_ _));refine blk_far ?_ NB413_414.out _;(with_reducible repeat (first|refine kN ?_ _|refine kD ?_|refine kA ?_ _));exact BK413.out⟩,⟨by (with_reducible repeat (first|refine kN ?_ _|refine kD ?_|refine kA ?_ _));refine blk_put (cs:=#[.slice Ao9 t400.length co9,.slice Ao19 y418.length co19,.int .i64 t406,.int .i64 t407,.int .i64 t408]) ?_ 3 _ rfl;(with_reducible repeat (first|refine kN ?_ _|refine kD ?_|refine kA ?_ _));exact BK414.out⟩,⟨by repeat (first|(with_reducible first|exact HB.out|apply bA|apply bN|apply bD|refine bS ?_ GE413.out|refine bS ?_ GE414.out)|exact HB.out)⟩⟩
   case rest =>
    clear HC6
    try clear c1
    try clear c2
    try clear p2
    try clear c3
    try clear p6
    try clear c15
    try clear c21
    try clear c21b0
    try clear c21b1
    try clear c24
    try clear c30
    try clear c30b0
    try clear c30b1
    obtain ⟨kq,x415001_5,x415002_5,x415003_5,u415001,HA,HJ5,HO_414000,HO_414001,HO_415000,HO_415001,BK413,BK414,HB⟩:=hcut
    cases kq with
    | zero => exact absurd HA.out (by simp [laws_FnTight.j0])
    | succ kj5 =>
     have H:=HA.out
     clear HA
     simp only [laws_FnTight.j0] at H
     replace H:=Option.bind_eq_some_iff.mp H
     obtain ⟨t429,A390,H⟩:=H
     replace H : (if t429 = 0 then (laws_FnTight.l0 kj5 l0 t409 0 t400 t403 t406 t407 t408 t400 x415001_5 x415002_5 x415003_5 t408) else ((spec_ProfileOk.f kj5 t400 x415001_5 x415002_5 x415003_5 t408).bind fun t430 => (some (t430 != 0)))) = some r:=H
     have A39:=Am A390
     clear A390
     by_cases c40 : t429 = 0
     ·rw [if_pos c40] at H
      have c40b0 : (t429 == 0) = true:=beq_iff_eq.mpr c40
      have c40b1 : (t429 != 0) = false:=bne_eq_false_iff_eq.mpr c40
      clear c40
      have H':=Am H
      clear H
      have hnb41:=NB414_413.out
      have hnc41:=NB413_414.out
      have hcz42_0 : wc.cell? ⟨gb414,0,none⟩ = some (.slice Ao9 t400.length co9):=(kC BK414.out 0).trans rfl
      have hcz42_1 : wc.cell? ⟨gb414,1,none⟩ = some (u415001):=(kC BK414.out 1).trans rfl
      have hcz42_2 : wc.cell? ⟨gb414,2,none⟩ = some (.int .i64 x415002_5):=(kC BK414.out 2).trans rfl
      have hcz42_3 : wc.cell? ⟨gb414,3,none⟩ = some (.int .i64 x415003_5):=(kC BK414.out 3).trans rfl
      have hcz42_4 : wc.cell? ⟨gb414,4,none⟩ = some (.int .i64 t408):=(kC BK414.out 4).trans rfl
      have hfz42_0:=kF BK414.out 0
      have hfz42_1:=kF BK414.out 1
      have hfz42_2:=kF BK414.out 2
      have hfz42_3:=kF BK414.out 3
      have hfz42_4:=kF BK414.out 4
      obtain ⟨Ao43,co43,eo43⟩:=Kd.R_slice HO_415001.out
      subst eo43
      go_wp2_with (first|((with_reducible refine gate_callee (f:=19) rfl ?_);refine goesL_ (some 72) rfl rfl Try.func19 (by kernel_rfl) rfl #[.agg #[.slice Ao9 t400.length co9,.slice Ao43 x415001_5.length co43,.int .i64 x415002_5,.int .i64 x415003_5,.int .i64 t408]] rfl (by (try simp only [List.map_toArray,List.map_cons,List.map_nil]);first|done|rfl|(simp only [List.length_drop,List.length_take];rfl)) ?_;(with_reducible refine (impl_ProfileOk.calls _ _ t400 _ _ x415001_5 x415002_5 x415003_5 t408 t429 _ ?side1 ?side2 ?side3 ?side4 A39.out).mono ?_);(case side1 => repeat (first|exact (Kd.R_reads' HO_415000.out).2.2|(with_reducible refine Kd.C_alloc ?_ _)|(with_reducible refine Kd.C_drewN ?_ _)|(with_reducible refine Kd.C_drew ?_)));(case side2 => exact (Kd.R_reads' HO_415000.out).2.1);(case side3 => repeat (first|exact (Kd.R_reads' HO_415001.out).2.2|(with_reducible refine Kd.C_alloc ?_ _)|(with_reducible refine Kd.C_drewN ?_ _)|(with_reducible refine Kd.C_drew ?_)));(case side4 => exact (Kd.R_reads' HO_415001.out).2.1);rintro e w44 ⟨rfl,hb⟩;refine ⟨_,rfl,?_⟩;have n0_:=Am (Kd.R_below (by (with_reducible repeat (first|apply Kd.R_alloc|apply Kd.R_drewN|apply Kd.R_drew));exact HO_414000.out) hb);have n1_:=Am (Kd.R_below (by (with_reducible repeat (first|apply Kd.R_alloc|apply Kd.R_drewN|apply Kd.R_drew));exact HO_414001.out) hb);have n2_:=Am (Kd.R_below (by (with_reducible repeat (first|apply Kd.R_alloc|apply Kd.R_drewN|apply Kd.R_drew));exact HO_415000.out) hb);have n3_:=Am (Kd.R_below (by (with_reducible repeat (first|apply Kd.R_alloc|apply Kd.R_drewN|apply Kd.R_drew));exact HO_415001.out) hb);have n4_:=Am (blk_below (g:=gb413) (o:=.cells #[.slice Ao9 t400.length co9,.slice Ao11 t403.length co11,.int .i64 t406,.int .i64 t407,.int .i64 t408] 26 (0,0)) (by (with_reducible repeat (first|refine kN ?_ _|refine kD ?_|refine kA ?_ _));exact BK413.out) hb);have n5_:=Am (blk_below (g:=gb414) (o:=.cells #[.slice Ao9 t400.length co9,.slice Ao43 x415001_5.length co43,.int .i64 x415002_5,.int .i64 x415003_5,.int .i64 t408] 26 (0,0)) (by (with_reducible repeat (first|refine kN ?_ _|refine kD ?_|refine kA ?_ _));exact BK414.out) hb);have n6_:=Am (below_step (by repeat (first|(with_reducible first|exact HB.out|apply bA|apply bN|apply bD|refine bS ?_ GE413.out|refine bS ?_ GE414.out)|exact HB.out)) hb);clear HO_414000;clear HO_414001;clear HO_415000;clear HO_415001;clear BK413;clear BK414;clear HB;have HO_414000:=n0_;have HO_414001:=n1_;have HO_415000:=n2_;have HO_415001:=n3_;have BK413:=n4_;have BK414:=n5_;have HB:=n6_;clear n0_ n1_ n2_ n3_ n4_ n5_ n6_;(try clear hb);(try clear hb2);(try clear hk);(try clear hi)))
      go_loopg [7] kj5 (fun kq v7 w' => ∃ (x7_2 : Int),v7 = .int .i64 x7_2∧As (laws_FnTight.l0 kq l0 t409 x7_2 t400 t403 t406 t407 t408 t400 x415001_5 x415002_5 x415003_5 t408 = some r)∧As (kq ≤ kj5)∧As (Kd.R k39 39 w' w.heap.size (fun _ => True) (.slice Ao9 t400.length co9) t400)∧As (Kd.R k45 45 w' w.heap.size (fun k_ => some k_ ≠ ((.slice Ao43 x415001_5.length co43) : Value).ownBlock) (.slice Ao11 t403.length co11) t403)∧As (Kd.R k39 39 w' w.heap.size (fun _ => True) (.slice Ao9 t400.length co9) t400)∧As (Kd.R k45 45 w' w.heap.size (fun k_ => some k_ ≠ ((.slice Ao11 t403.length co11) : Value).ownBlock) (.slice Ao43 x415001_5.length co43) x415001_5)∧As (w'.heap[gb413]? = some (.cells #[(.slice Ao9 t400.length co9),(.slice Ao11 t403.length co11),.int .i64 t406,.int .i64 t407,.int .i64 t408] 26 (0,0)))∧As (w'.heap[gb414]? = some (.cells #[(.slice Ao9 t400.length co9),(.slice Ao43 x415001_5.length co43),.int .i64 x415002_5,.int .i64 x415003_5,.int .i64 t408] 26 (0,0)))∧As (Below w.heap.size w w'))
      case atStart => exact ⟨(0),(by first|rfl|(simp;done)|(simp [*];done)),H',⟨Nat.le_refl _⟩,⟨by (with_reducible repeat (first|apply Kd.R_alloc|apply Kd.R_drewN|apply Kd.R_drew));exact HO_414000.out⟩,⟨by (with_reducible repeat (first|apply Kd.R_alloc|apply Kd.R_drewN|apply Kd.R_drew));exact HO_414001.out⟩,⟨by (with_reducible repeat (first|apply Kd.R_alloc|apply Kd.R_drewN|apply Kd.R_drew));exact HO_415000.out⟩,⟨by (with_reducible repeat (first|apply Kd.R_alloc|apply Kd.R_drewN|apply Kd.R_drew));exact HO_415001.out⟩,⟨by (with_reducible repeat (first|refine kN ?_ _|refine kD ?_|refine kA ?_ _));exact BK413.out⟩,⟨by (with_reducible repeat (first|refine kN ?_ _|refine kD ?_|refine kA ?_ _));exact BK414.out⟩,⟨by repeat (first|(with_reducible first|exact HB.out|apply bA|apply bN|apply bD|refine bS ?_ GE413.out|refine bS ?_ GE414.out)|exact HB.out)⟩⟩
      case round =>
       clear H'
       try clear c1
       try clear c2
       try clear p2
       try clear c3
       try clear c4
       try clear p6
       try clear c15
       try clear c19
       try clear c21
       try clear c21b0
       try clear c21b1
       try clear c24
       try clear c30
       try clear c30b0
       try clear c30b1
       try clear c40
       try clear c40b0
       try clear c40b1
       try clear c41
       try clear hcz42_0
       try clear hcz42_1
       try clear hcz42_2
       try clear hcz42_3
       try clear hcz42_4
       try clear hfz42_0
       try clear hfz42_1
       try clear hfz42_2
       try clear hfz42_3
       try clear hfz42_4
       try clear p2
       try clear p6
       obtain ⟨x7_2,rfl,HA,HK2,HO_414000,HO_414001,HO_415000,HO_415001,BK413,BK414,HB⟩:=hrel
       cases gk with
       | zero => exact absurd HA.out (by simp [laws_FnTight.l0])
       | succ k2 =>
        have H:=HA.out
        clear HA
        simp only [laws_FnTight.l0] at H
        by_cases c45 : x7_2 < 20
        ·rw [if_pos c45] at H
         have c45b0 : decide (x7_2 < 20) = true:=decide_eq_true c45
         clear c45
         replace H:=Option.bind_eq_some_iff.mp H
         obtain ⟨t433,A460,H⟩:=H
         replace H : ((laws_wByte.f l0 x7_2).bind fun t434 => ((impl_Safe.f k2 t400 x415001_5 x415002_5 x415003_5 t408 t409 (wrap64 (t433 * (wrap64 (1 + (Int.tmod t434 3)))))).bind fun t435 => (if t435 = true then ((impl_Safe.f k2 t400 t403 t406 t407 t408 t409 (wrap64 (t433 * (wrap64 (1 + (Int.tmod t434 3)))))).bind fun t436 => (if t436 = true then ((impl_Safe.f k2 t400 x415001_5 x415002_5 x415003_5 t408 t409 (wrap64 (t433 * (wrap64 (1 + (Int.tmod t434 3)))))).bind fun t437 => ((spec_Safe.f k2 t400 x415001_5 x415002_5 x415003_5 t408 t409 (wrap64 (t433 * (wrap64 (1 + (Int.tmod t434 3)))))).bind fun t438 => (if (t437 != t438) = true then (some false) else (laws_FnTight.l0 k2 l0 t409 (wrap64 (x7_2 + 1)) t400 t403 t406 t407 t408 t400 x415001_5 x415002_5 x415003_5 t408)))) else (some false))) else ((impl_Safe.f k2 t400 x415001_5 x415002_5 x415003_5 t408 t409 (wrap64 (t433 * (wrap64 (1 + (Int.tmod t434 3)))))).bind fun t439 => ((spec_Safe.f k2 t400 x415001_5 x415002_5 x415003_5 t408 t409 (wrap64 (t433 * (wrap64 (1 + (Int.tmod t434 3)))))).bind fun t440 => (if (t439 != t440) = true then (some false) else (laws_FnTight.l0 k2 l0 t409 (wrap64 (x7_2 + 1)) t400 t403 t406 t407 t408 t400 x415001_5 x415002_5 x415003_5 t408))))))) = some r:=H
         have A46:=Am A460
         clear A460
         replace H:=Option.bind_eq_some_iff.mp H
         obtain ⟨t434,A470,H⟩:=H
         replace H : ((impl_Safe.f k2 t400 x415001_5 x415002_5 x415003_5 t408 t409 (wrap64 (t433 * (wrap64 (1 + (Int.tmod t434 3)))))).bind fun t435 => (if t435 = true then ((impl_Safe.f k2 t400 t403 t406 t407 t408 t409 (wrap64 (t433 * (wrap64 (1 + (Int.tmod t434 3)))))).bind fun t436 => (if t436 = true then ((impl_Safe.f k2 t400 x415001_5 x415002_5 x415003_5 t408 t409 (wrap64 (t433 * (wrap64 (1 + (Int.tmod t434 3)))))).bind fun t437 => ((spec_Safe.f k2 t400 x415001_5 x415002_5 x415003_5 t408 t409 (wrap64 (t433 * (wrap64 (1 + (Int.tmod t434 3)))))).bind fun t438 => (if (t437 != t438) = true then (some false) else (laws_FnTight.l0 k2 l0 t409 (wrap64 (x7_2 + 1)) t400 t403 t406 t407 t408 t400 x415001_5 x415002_5 x415003_5 t408)))) else (some false))) else ((impl_Safe.f k2 t400 x415001_5 x415002_5 x415003_5 t408 t409 (wrap64 (t433 * (wrap64 (1 + (Int.tmod t434 3)))))).bind fun t439 => ((spec_Safe.f k2 t400 x415001_5 x415002_5 x415003_5 t408 t409 (wrap64 (t433 * (wrap64 (1 + (Int.tmod t434 3)))))).bind fun t440 => (if (t439 != t440) = true then (some false) else (laws_FnTight.l0 k2 l0 t409 (wrap64 (x7_2 + 1)) t400 t403 t406 t407 t408 t400 x415001_5 x415002_5 x415003_5 t408)))))) = some r:=H
         have A47:=Am A470
         clear A470
         replace H:=Option.bind_eq_some_iff.mp H
         obtain ⟨t435,A480,H⟩:=H
         replace H : (if t435 = true then ((impl_Safe.f k2 t400 t403 t406 t407 t408 t409 (wrap64 (t433 * (wrap64 (1 + (Int.tmod t434 3)))))).bind fun t436 => (if t436 = true then ((impl_Safe.f k2 t400 x415001_5 x415002_5 x415003_5 t408 t409 (wrap64 (t433 * (wrap64 (1 + (Int.tmod t434 3)))))).bind fun t437 => ((spec_Safe.f k2 t400 x415001_5 x415002_5 x415003_5 t408 t409 (wrap64 (t433 * (wrap64 (1 + (Int.tmod t434 3)))))).bind fun t438 => (if (t437 != t438) = true then (some false) else (laws_FnTight.l0 k2 l0 t409 (wrap64 (x7_2 + 1)) t400 t403 t406 t407 t408 t400 x415001_5 x415002_5 x415003_5 t408)))) else (some false))) else ((impl_Safe.f k2 t400 x415001_5 x415002_5 x415003_5 t408 t409 (wrap64 (t433 * (wrap64 (1 + (Int.tmod t434 3)))))).bind fun t439 => ((spec_Safe.f k2 t400 x415001_5 x415002_5 x415003_5 t408 t409 (wrap64 (t433 * (wrap64 (1 + (Int.tmod t434 3)))))).bind fun t440 => (if (t439 != t440) = true then (some false) else (laws_FnTight.l0 k2 l0 t409 (wrap64 (x7_2 + 1)) t400 t403 t406 t407 t408 t400 x415001_5 x415002_5 x415003_5 t408))))) = some r:=H
         have A48:=Am A480
         clear A480
         by_cases c49 : t435 = true
         ·subst c49
          have H1 : ((impl_Safe.f k2 t400 t403 t406 t407 t408 t409 (wrap64 (t433 * (wrap64 (1 + (Int.tmod t434 3)))))).bind fun t436 => (if t436 = true then ((impl_Safe.f k2 t400 x415001_5 x415002_5 x415003_5 t408 t409 (wrap64 (t433 * (wrap64 (1 + (Int.tmod t434 3)))))).bind fun t437 => ((spec_Safe.f k2 t400 x415001_5 x415002_5 x415003_5 t408 t409 (wrap64 (t433 * (wrap64 (1 + (Int.tmod t434 3)))))).bind fun t438 => (if (t437 != t438) = true then (some false) else (laws_FnTight.l0 k2 l0 t409 (wrap64 (x7_2 + 1)) t400 t403 t406 t407 t408 t400 x415001_5 x415002_5 x415003_5 t408)))) else (some false))) = some r:=by rw [if_pos rfl] at H;exact H
          clear H
          have H:=H1
          clear H1
          replace H:=Option.bind_eq_some_iff.mp H
          obtain ⟨t436,A500,H⟩:=H
          replace H : (if t436 = true then ((impl_Safe.f k2 t400 x415001_5 x415002_5 x415003_5 t408 t409 (wrap64 (t433 * (wrap64 (1 + (Int.tmod t434 3)))))).bind fun t437 => ((spec_Safe.f k2 t400 x415001_5 x415002_5 x415003_5 t408 t409 (wrap64 (t433 * (wrap64 (1 + (Int.tmod t434 3)))))).bind fun t438 => (if (t437 != t438) = true then (some false) else (laws_FnTight.l0 k2 l0 t409 (wrap64 (x7_2 + 1)) t400 t403 t406 t407 t408 t400 x415001_5 x415002_5 x415003_5 t408)))) else (some false)) = some r:=H
          have A50:=Am A500
          clear A500
          by_cases c51 : t436 = true
          ·subst c51
           have H1 : ((impl_Safe.f k2 t400 x415001_5 x415002_5 x415003_5 t408 t409 (wrap64 (t433 * (wrap64 (1 + (Int.tmod t434 3)))))).bind fun t437 => ((spec_Safe.f k2 t400 x415001_5 x415002_5 x415003_5 t408 t409 (wrap64 (t433 * (wrap64 (1 + (Int.tmod t434 3)))))).bind fun t438 => (if (t437 != t438) = true then (some false) else (laws_FnTight.l0 k2 l0 t409 (wrap64 (x7_2 + 1)) t400 t403 t406 t407 t408 t400 x415001_5 x415002_5 x415003_5 t408)))) = some r:=by rw [if_pos rfl] at H;exact H
           clear H
           have H:=H1
           clear H1
           replace H:=Option.bind_eq_some_iff.mp H
           obtain ⟨t437,A520,H⟩:=H
           replace H : ((spec_Safe.f k2 t400 x415001_5 x415002_5 x415003_5 t408 t409 (wrap64 (t433 * (wrap64 (1 + (Int.tmod t434 3)))))).bind fun t438 => (if (t437 != t438) = true then (some false) else (laws_FnTight.l0 k2 l0 t409 (wrap64 (x7_2 + 1)) t400 t403 t406 t407 t408 t400 x415001_5 x415002_5 x415003_5 t408))) = some r:=H
           have A52:=Am A520
           clear A520
           replace H:=Option.bind_eq_some_iff.mp H
           obtain ⟨t438,A530,H⟩:=H
           replace H : (if (t437 != t438) = true then (some false) else (laws_FnTight.l0 k2 l0 t409 (wrap64 (x7_2 + 1)) t400 t403 t406 t407 t408 t400 x415001_5 x415002_5 x415003_5 t408)) = some r:=H
           have A53:=Am A530
           clear A530
           by_cases c54 : (t437 != t438) = true
           ·rw [if_pos c54] at H
            have c54b0 : (t437 != t438) = true:=c54
            (try (have c54b1 : decide (t437 = t438) = false:=by simpa using c54))
            (try (have c54b2 : (t437 == t438) = false:=by simpa using c54))
            (try (have c54b3 : ¬ (t437 = t438):=by simpa using c54))
            clear c54
            exact absurd H (by rw [hrt.out];simp)
           ·rw [if_neg c54] at H
            have c54b0 : (t437 != t438) = false:=by simpa using c54
            (try (have c54b1 : decide (t437 = t438) = true:=by simpa using c54))
            (try (have c54b2 : (t437 == t438) = true:=by simpa using c54))
            clear c54
            have H':=Am H
            clear H
            try go_wp2_with (first|((with_reducible refine gate_callee (f:=15) rfl ?_);refine goesL_ (some 84) rfl rfl Try.func15 (by kernel_rfl) rfl #[.slice A0 l0.length c0,.int .i64 (wrap64 (x7_2 + 3))] rfl (by (try simp only [List.map_toArray,List.map_cons,List.map_nil]);first|done|rfl|(simp only [List.length_drop,List.length_take];rfl)) ?_;(with_reducible refine (laws_wByte.calls _ _ l0 (wrap64 (x7_2 + 3)) t433 _ ?side1 ?side2 A46.out).mono ?_);(case side1 => repeat (first|exact (Kd.C_below HR0.out HB.out)|(with_reducible refine Kd.C_alloc ?_ _)|(with_reducible refine Kd.C_drewN ?_ _)|(with_reducible refine Kd.C_drew ?_)));(case side2 => exact HC0.out);rintro e w' ⟨rfl,⟨nd,rfl⟩⟩;refine ⟨_,rfl,?_⟩)|((with_reducible refine gate_callee (f:=15) rfl ?_);refine goesL_ (some 87) rfl rfl Try.func15 (by kernel_rfl) rfl #[.slice A0 l0.length c0,.int .i64 x7_2] rfl (by (try simp only [List.map_toArray,List.map_cons,List.map_nil]);first|done|rfl|(simp only [List.length_drop,List.length_take];rfl)) ?_;(with_reducible refine (laws_wByte.calls _ _ l0 x7_2 t434 _ ?side1 ?side2 A47.out).mono ?_);(case side1 => repeat (first|exact (Kd.C_below HR0.out (by repeat (first|(with_reducible first|exact HB.out|apply bA|apply bN|apply bD|refine bS ?_ GE413.out|refine bS ?_ GE414.out)|exact HB.out)))|(with_reducible refine Kd.C_alloc ?_ _)|(with_reducible refine Kd.C_drewN ?_ _)|(with_reducible refine Kd.C_drew ?_)));(case side2 => exact HC0.out);rintro e w' ⟨rfl,⟨nd,rfl⟩⟩;refine ⟨_,rfl,?_⟩))
            (try (rw [drewN_self wr];generalize hq_ : World.drewN wr _ = wr;have n0_ : As (Kd.R k39 39 wr w.heap.size (fun _ => True) (.slice Ao9 t400.length co9) t400):=⟨by rw [← hq_];exact (by (with_reducible repeat (first|apply Kd.R_alloc|apply Kd.R_drewN|apply Kd.R_drew));exact HO_414000.out)⟩;have n1_ : As (Kd.R k45 45 wr w.heap.size (fun k_ => some k_ ≠ (.slice Ao43 x415001_5.length co43 : Value).ownBlock) (.slice Ao11 t403.length co11) t403):=⟨by rw [← hq_];exact (by (with_reducible repeat (first|apply Kd.R_alloc|apply Kd.R_drewN|apply Kd.R_drew));exact HO_414001.out)⟩;have n2_ : As (Kd.R k39 39 wr w.heap.size (fun _ => True) (.slice Ao9 t400.length co9) t400):=⟨by rw [← hq_];exact (by (with_reducible repeat (first|apply Kd.R_alloc|apply Kd.R_drewN|apply Kd.R_drew));exact HO_415000.out)⟩;have n3_ : As (Kd.R k45 45 wr w.heap.size (fun k_ => some k_ ≠ (.slice Ao11 t403.length co11 : Value).ownBlock) (.slice Ao43 x415001_5.length co43) x415001_5):=⟨by rw [← hq_];exact (by (with_reducible repeat (first|apply Kd.R_alloc|apply Kd.R_drewN|apply Kd.R_drew));exact HO_415001.out)⟩;have n4_ : As (wr.heap[gb413]? = some (.cells #[.slice Ao9 t400.length co9,.slice Ao11 t403.length co11,.int .i64 t406,.int .i64 t407,.int .i64 t408] 26 (0,0))):=⟨by rw [← hq_];exact (by (with_reducible repeat (first|refine kN ?_ _|refine kD ?_|refine kA ?_ _));exact BK413.out)⟩;have n5_ : As (wr.heap[gb414]? = some (.cells #[.slice Ao9 t400.length co9,.slice Ao43 x415001_5.length co43,.int .i64 x415002_5,.int .i64 x415003_5,.int .i64 t408] 26 (0,0))):=⟨by rw [← hq_];exact (by (with_reducible repeat (first|refine kN ?_ _|refine kD ?_|refine kA ?_ _));exact BK414.out)⟩;have n6_ : As (Below w.heap.size w wr):=⟨by rw [← hq_];exact (by repeat (first|(with_reducible first|exact HB.out|apply bA|apply bN|apply bD|refine bS ?_ GE413.out|refine bS ?_ GE414.out)|exact HB.out))⟩;clear HO_414000 HO_414001 HO_415000 HO_415001 BK413 BK414 HB hq_;have HO_414000:=n0_;have HO_414001:=n1_;have HO_415000:=n2_;have HO_415001:=n3_;have BK413:=n4_;have BK414:=n5_;have HB:=n6_;clear n0_ n1_ n2_ n3_ n4_ n5_ n6_))
            have n0_:=Am (Kd.R_drew HO_414000.out)
            have n1_:=Am (Kd.R_drew HO_414001.out)
            have n2_:=Am (Kd.R_drew HO_415000.out)
            have n3_:=Am (Kd.R_drew HO_415001.out)
            have n4_:=Am (kD BK413.out)
            have n5_:=Am (kD BK414.out)
            have n6_:=Am (bD HB.out)
            clear HO_414000
            clear HO_414001
            clear HO_415000
            clear HO_415001
            clear BK413
            clear BK414
            clear HB
            have HO_414000:=n0_
            have HO_414001:=n1_
            have HO_415000:=n2_
            have HO_415001:=n3_
            have BK413:=n4_
            have BK414:=n5_
            have HB:=n6_
            clear n0_ n1_ n2_ n3_ n4_ n5_ n6_
            refine start_ (n:=22) (S:=fun w' => w'.cell? ⟨gb414,0,none⟩ = some (.slice Ao9 t400.length co9)∧w'.cell? ⟨gb414,1,none⟩ = some (.slice Ao43 x415001_5.length co43)∧w'.cell? ⟨gb414,2,none⟩ = some (.int .i64 x415002_5)∧w'.cell? ⟨gb414,3,none⟩ = some (.int .i64 x415003_5)∧w'.cell? ⟨gb414,4,none⟩ = some (.int .i64 t408)∧w'.cell? ⟨gb413,0,none⟩ = some (.slice Ao9 t400.length co9)∧w'.cell? ⟨gb413,1,none⟩ = some (.slice Ao11 t403.length co11)∧w'.cell? ⟨gb413,2,none⟩ = some (.int .i64 t406)∧w'.cell? ⟨gb413,3,none⟩ = some (.int .i64 t407)∧w'.cell? ⟨gb413,4,none⟩ = some (.int .i64 t408)) (ds:=[]) #[false,false,false,false,false,false,false,false,false,false,false,false,false,false,false,false,false,false,false,false,false,false] (by kernel_rfl) rfl rfl ⟨(kC BK414.out 0).trans rfl,(kC BK414.out 1).trans rfl,(kC BK414.out 2).trans rfl,(kC BK414.out 3).trans rfl,(kC BK414.out 4).trans rfl,(kC BK413.out 0).trans rfl,(kC BK413.out 1).trans rfl,(kC BK413.out 2).trans rfl,(kC BK413.out 3).trans rfl,(kC BK413.out 4).trans rfl⟩ (fun hHeld => ?_);refine with_tabW laws_FnTight.tab18 laws_FnTight.bits18 (fun HT_ HW_ => ?_)
            generalize wr.drew = w55 at HO_414000 HO_414001 HO_415000 HO_415001 BK413 BK414 HB hHeld ⊢
            refine pure_ (i:=1) (N:=some 92) (v:=?_) (a':=?_) #[false,true,false,false,false,false,false,false,false,false,false,false,false,false,false,false,false,false,false,false,false,false] rfl rfl (any_of HT_.out (by kernel_rfl)) (fun _ _ _ h => h) (Or.inl ⟨by rfl,?_⟩) ?_ ?_
            rotate_left
            ·intro w'
             go_simp
             with_reducible rfl
            rotate_left
            ·simp only [Act.put,pS]
             rfl
            refine pure_ (i:=2) (N:=some 93) (v:=?_) (a':=?_) #[false,true,true,false,false,false,false,false,false,false,false,false,false,false,false,false,false,false,false,false,false,false] rfl rfl (any_of HT_.out (by kernel_rfl)) (fun _ _ _ h => h) (Or.inl ⟨by rfl,?_⟩) ?_ ?_
            rotate_left
            ·intro w'
             go_simp
             with_reducible rfl
            rotate_left
            ·simp only [Act.put,pS]
             rfl
            refine take_ (i:=0) (N:=some 91) (v:=?_) (a':=?_) #[true,true,true,false,false,false,false,false,false,false,false,false,false,false,false,false,false,false,false,false,false,false] rfl rfl (take_ofW HT_.out HW_.out (by kernel_rfl)) (fun _ _ _ h => h) (Or.inl ⟨by rfl,?_⟩) hHeld ?_ ?_
            rotate_left
            ·rintro w' ⟨s0,s1,s2,s3,s4,s5,s6,s7,s8,s9⟩
             go_simp
             with_reducible rfl
            rotate_left
            ·simp only [Act.put,pS]
             rfl
            refine one_ (i:=3) (N:=some 94) #[true,true,true,true,false,false,false,false,false,false,false,false,false,false,false,false,false,false,false,false,false,false] rfl rfl (one_of HT_.out (by kernel_rfl)) (by decide) (fun K hK => ?_)
            refine goes_ Try.func21 (by kernel_rfl) rfl #[.agg #[.slice Ao9 t400.length co9,.slice Ao43 x415001_5.length co43,.int .i64 x415002_5,.int .i64 x415003_5,.int .i64 t408],.int .i64 t409,.int .i64 (wrap64 (t433 * (wrap64 (1 + (Int.tmod t434 3)))))] (by rfl) rfl rfl (by (try simp only [List.map_toArray,List.map_cons,List.map_nil]);first|done|rfl|(simp only [List.length_drop,List.length_take];rfl)) ?_
            with_reducible refine (impl_Safe.calls k2 _ _ t400 _ _ x415001_5 x415002_5 x415003_5 t408 t409 (wrap64 (t433 * (wrap64 (1 + (Int.tmod t434 3))))) true _ ?side1 ?side2 ?side3 ?side4 A48.out).mono ?_
            (case side1 => repeat (first|exact (Kd.R_reads' HO_415000.out).2.2|(with_reducible refine Kd.C_alloc ?_ _)|(with_reducible refine Kd.C_drewN ?_ _)|(with_reducible refine Kd.C_drew ?_)))
            (case side2 => exact (Kd.R_reads' HO_415000.out).2.1)
            (case side3 => repeat (first|exact (Kd.R_reads' HO_415001.out).2.2|(with_reducible refine Kd.C_alloc ?_ _)|(with_reducible refine Kd.C_drewN ?_ _)|(with_reducible refine Kd.C_drew ?_)))
            (case side4 => exact (Kd.R_reads' HO_415001.out).2.1)
            rintro e w56 ⟨rfl,hb⟩
            refine ⟨_,rfl,?_⟩
            have n0_:=Am (Kd.R_below (by (with_reducible repeat (first|apply Kd.R_alloc|apply Kd.R_drewN|apply Kd.R_drew));exact HO_414000.out) hb)
            have n1_:=Am (Kd.R_below (by (with_reducible repeat (first|apply Kd.R_alloc|apply Kd.R_drewN|apply Kd.R_drew));exact HO_414001.out) hb)
            have n2_:=Am (Kd.R_below (by (with_reducible repeat (first|apply Kd.R_alloc|apply Kd.R_drewN|apply Kd.R_drew));exact HO_415000.out) hb)
            have n3_:=Am (Kd.R_below (by (with_reducible repeat (first|apply Kd.R_alloc|apply Kd.R_drewN|apply Kd.R_drew));exact HO_415001.out) hb)
            have n4_:=Am (blk_below (g:=gb413) (o:=.cells #[.slice Ao9 t400.length co9,.slice Ao11 t403.length co11,.int .i64 t406,.int .i64 t407,.int .i64 t408] 26 (0,0)) (by (with_reducible repeat (first|refine kN ?_ _|refine kD ?_|refine kA ?_ _));exact BK413.out) hb)
            have n5_:=Am (blk_below (g:=gb414) (o:=.cells #[.slice Ao9 t400.length co9,.slice Ao43 x415001_5.length co43,.int .i64 x415002_5,.int .i64 x415003_5,.int .i64 t408] 26 (0,0)) (by (with_reducible repeat (first|refine kN ?_ _|refine kD ?_|refine kA ?_ _));exact BK414.out) hb)
            have n6_:=Am (below_step (by repeat (first|(with_reducible first|exact HB.out|apply bA|apply bN|apply bD|refine bS ?_ GE413.out|refine bS ?_ GE414.out)|exact HB.out)) hb)
            clear HO_414000
            clear HO_414001
            clear HO_415000
            clear HO_415001
            clear BK413
            clear BK414
            clear HB
            have HO_414000:=n0_
            have HO_414001:=n1_
            have HO_415000:=n2_
            have HO_415001:=n3_
            have BK413:=n4_
            have BK414:=n5_
            have HB:=n6_
            clear n0_ n1_ n2_ n3_ n4_ n5_ n6_
            (try clear hb)
            (try clear hb2)
            (try clear hk)
            (try clear hi)
            refine hK.out _ _ ⟨(kC BK414.out 0).trans rfl,(kC BK414.out 1).trans rfl,(kC BK414.out 2).trans rfl,(kC BK414.out 3).trans rfl,(kC BK414.out 4).trans rfl,(kC BK413.out 0).trans rfl,(kC BK413.out 1).trans rfl,(kC BK413.out 2).trans rfl,(kC BK413.out 3).trans rfl,(kC BK413.out 4).trans rfl⟩ (fun hHeld => ?_)
            clear hK K
            refine norm_ (a':=?_) ?_ ?_
            rotate_left
            ·show Act.put _ (some 94) _ = _
             simp only [Act.put,pS]
             rfl
            refine pure_ (i:=4) (N:=some 95) (v:=?_) (a':=?_) #[true,true,true,true,true,false,false,false,false,false,false,false,false,false,false,false,false,false,false,false,false,false] rfl rfl (any_of HT_.out (by kernel_rfl)) (fun _ _ _ h => h) (Or.inl ⟨by rfl,?_⟩) ?_ ?_
            rotate_left
            ·intro w'
             go_simp
             with_reducible rfl
            rotate_left
            ·simp only [Act.put,pS]
             rfl
            refine pure_ (i:=6) (N:=some 97) (v:=?_) (a':=?_) #[true,true,true,true,true,false,true,false,false,false,false,false,false,false,false,false,false,false,false,false,false,false] rfl rfl (any_of HT_.out (by kernel_rfl)) (fun _ _ _ h => h) (Or.inl ⟨by rfl,?_⟩) ?_ ?_
            rotate_left
            ·intro w'
             go_simp
             with_reducible rfl
            rotate_left
            ·simp only [Act.put,pS]
             rfl
            refine pure_ (i:=7) (N:=some 98) (v:=?_) (a':=?_) #[true,true,true,true,true,false,true,true,false,false,false,false,false,false,false,false,false,false,false,false,false,false] rfl rfl (any_of HT_.out (by kernel_rfl)) (fun _ _ _ h => h) (Or.inl ⟨by rfl,?_⟩) ?_ ?_
            rotate_left
            ·intro w'
             go_simp
             with_reducible rfl
            rotate_left
            ·simp only [Act.put,pS]
             rfl
            refine take_ (i:=5) (N:=some 96) (v:=?_) (a':=?_) #[true,true,true,true,true,true,true,true,false,false,false,false,false,false,false,false,false,false,false,false,false,false] rfl rfl (take_ofW HT_.out HW_.out (by kernel_rfl)) (fun _ _ _ h => h) (Or.inl ⟨by rfl,?_⟩) hHeld ?_ ?_
            rotate_left
            ·rintro w' ⟨s0,s1,s2,s3,s4,s5,s6,s7,s8,s9⟩
             go_simp
             with_reducible rfl
            rotate_left
            ·simp only [Act.put,pS]
             rfl
            refine one_ (i:=8) (N:=some 99) #[true,true,true,true,true,true,true,true,true,false,false,false,false,false,false,false,false,false,false,false,false,false] rfl rfl (one_of HT_.out (by kernel_rfl)) (by decide) (fun K hK => ?_)
            refine goes_ Try.func21 (by kernel_rfl) rfl #[.agg #[.slice Ao9 t400.length co9,.slice Ao11 t403.length co11,.int .i64 t406,.int .i64 t407,.int .i64 t408],.int .i64 t409,.int .i64 (wrap64 (t433 * (wrap64 (1 + (Int.tmod t434 3)))))] (by rfl) rfl rfl (by (try simp only [List.map_toArray,List.map_cons,List.map_nil]);first|done|rfl|(simp only [List.length_drop,List.length_take];rfl)) ?_
            with_reducible refine (impl_Safe.calls k2 _ _ t400 _ _ t403 t406 t407 t408 t409 (wrap64 (t433 * (wrap64 (1 + (Int.tmod t434 3))))) true _ ?side1 ?side2 ?side3 ?side4 A50.out).mono ?_
            (case side1 => repeat (first|exact (Kd.R_reads' HO_414000.out).2.2|(with_reducible refine Kd.C_alloc ?_ _)|(with_reducible refine Kd.C_drewN ?_ _)|(with_reducible refine Kd.C_drew ?_)))
            (case side2 => exact (Kd.R_reads' HO_414000.out).2.1)
            (case side3 => repeat (first|exact (Kd.R_reads' HO_414001.out).2.2|(with_reducible refine Kd.C_alloc ?_ _)|(with_reducible refine Kd.C_drewN ?_ _)|(with_reducible refine Kd.C_drew ?_)))
            (case side4 => exact (Kd.R_reads' HO_414001.out).2.1)
            rintro e w57 ⟨rfl,hb⟩
            refine ⟨_,rfl,?_⟩
            have n0_:=Am (Kd.R_below (by (with_reducible repeat (first|apply Kd.R_alloc|apply Kd.R_drewN|apply Kd.R_drew));exact HO_414000.out) hb)
            have n1_:=Am (Kd.R_below (by (with_reducible repeat (first|apply Kd.R_alloc|apply Kd.R_drewN|apply Kd.R_drew));exact HO_414001.out) hb)
            have n2_:=Am (Kd.R_below (by (with_reducible repeat (first|apply Kd.R_alloc|apply Kd.R_drewN|apply Kd.R_drew));exact HO_415000.out) hb)
            have n3_:=Am (Kd.R_below (by (with_reducible repeat (first|apply Kd.R_alloc|apply Kd.R_drewN|apply Kd.R_drew));exact HO_415001.out) hb)
            have n4_:=Am (blk_below (g:=gb413) (o:=.cells #[.slice Ao9 t400.length co9,.slice Ao11 t403.length co11,.int .i64 t406,.int .i64 t407,.int .i64 t408] 26 (0,0)) (by (with_reducible repeat (first|refine kN ?_ _|refine kD ?_|refine kA ?_ _));exact BK413.out) hb)
            have n5_:=Am (blk_below (g:=gb414) (o:=.cells #[.slice Ao9 t400.length co9,.slice Ao43 x415001_5.length co43,.int .i64 x415002_5,.int .i64 x415003_5,.int .i64 t408] 26 (0,0)) (by (with_reducible repeat (first|refine kN ?_ _|refine kD ?_|refine kA ?_ _));exact BK414.out) hb)
            have n6_:=Am (below_step (by repeat (first|(with_reducible first|exact HB.out|apply bA|apply bN|apply bD|refine bS ?_ GE413.out|refine bS ?_ GE414.out)|exact HB.out)) hb)
            clear HO_414000
            clear HO_414001
            clear HO_415000
            clear HO_415001
            clear BK413
            clear BK414
            clear HB
            have HO_414000:=n0_
            have HO_414001:=n1_
            have HO_415000:=n2_
            have HO_415001:=n3_
            have BK413:=n4_
            have BK414:=n5_
            have HB:=n6_
            clear n0_ n1_ n2_ n3_ n4_ n5_ n6_
            (try clear hb)
            (try clear hb2)
            (try clear hk)
            (try clear hi)
            refine hK.out _ _ ⟨(kC BK414.out 0).trans rfl,(kC BK414.out 1).trans rfl,(kC BK414.out 2).trans rfl,(kC BK414.out 3).trans rfl,(kC BK414.out 4).trans rfl,(kC BK413.out 0).trans rfl,(kC BK413.out 1).trans rfl,(kC BK413.out 2).trans rfl,(kC BK413.out 3).trans rfl,(kC BK413.out 4).trans rfl⟩ (fun hHeld => ?_)
            clear hK K
            refine norm_ (a':=?_) ?_ ?_
            rotate_left
            ·show Act.put _ (some 99) _ = _
             simp only [Act.put,pS]
             rfl
            refine pure_ (i:=9) (N:=some 100) (v:=?_) (a':=?_) #[true,true,true,true,true,true,true,true,true,true,false,false,false,false,false,false,false,false,false,false,false,false] rfl rfl (any_of HT_.out (by kernel_rfl)) (fun _ _ _ h => h) (Or.inl ⟨by rfl,?_⟩) ?_ ?_
            rotate_left
            ·intro w'
             go_simp
             with_reducible rfl
            rotate_left
            ·simp only [Act.put,pS]
             rfl
            refine pure_ (i:=10) (N:=some 101) (v:=?_) (a':=?_) #[true,true,true,true,true,true,true,true,true,true,true,false,false,false,false,false,false,false,false,false,false,false] rfl rfl (any_of HT_.out (by kernel_rfl)) (fun _ _ _ h => h) (Or.inl ⟨by rfl,?_⟩) ?_ ?_
            rotate_left
            ·intro w'
             go_simp
             with_reducible rfl
            rotate_left
            ·simp only [Act.put,pS]
             rfl
            refine pure_ (i:=11) (N:=some 102) (v:=?_) (a':=?_) #[true,true,true,true,true,true,true,true,true,true,true,true,false,false,false,false,false,false,false,false,false,false] rfl rfl (any_of HT_.out (by kernel_rfl)) (fun _ _ _ h => h) (Or.inl ⟨by rfl,?_⟩) ?_ ?_
            rotate_left
            ·intro w'
             go_simp
             with_reducible rfl
            rotate_left
            ·simp only [Act.put,pS]
             rfl
            refine pure_ (i:=13) (N:=some 104) (v:=?_) (a':=?_) #[true,true,true,true,true,true,true,true,true,true,true,true,false,true,false,false,false,false,false,false,false,false] rfl rfl (any_of HT_.out (by kernel_rfl)) (fun _ _ _ h => h) (Or.inl ⟨by rfl,?_⟩) ?_ ?_
            rotate_left
            ·intro w'
             go_simp
             with_reducible rfl
            rotate_left
            ·simp only [Act.put,pS]
             rfl
            refine pure_ (i:=14) (N:=some 105) (v:=?_) (a':=?_) #[true,true,true,true,true,true,true,true,true,true,true,true,false,true,true,false,false,false,false,false,false,false] rfl rfl (any_of HT_.out (by kernel_rfl)) (fun _ _ _ h => h) (Or.inl ⟨by rfl,?_⟩) ?_ ?_
            rotate_left
            ·intro w'
             go_simp
             with_reducible rfl
            rotate_left
            ·simp only [Act.put,pS]
             rfl
            refine pure_ (i:=17) (N:=some 108) (v:=?_) (a':=?_) #[true,true,true,true,true,true,true,true,true,true,true,true,false,true,true,false,false,true,false,false,false,false] rfl rfl (any_of HT_.out (by kernel_rfl)) (fun _ _ _ h => h) (Or.inl ⟨by rfl,?_⟩) ?_ ?_
            rotate_left
            ·intro w'
             go_simp
             with_reducible rfl
            rotate_left
            ·simp only [Act.put,pS]
             rfl
            refine pure_ (i:=18) (N:=some 109) (v:=?_) (a':=?_) #[true,true,true,true,true,true,true,true,true,true,true,true,false,true,true,false,false,true,true,false,false,false] rfl rfl (any_of HT_.out (by kernel_rfl)) (fun _ _ _ h => h) (Or.inl ⟨by rfl,?_⟩) ?_ ?_
            rotate_left
            ·intro w'
             go_simp
             with_reducible rfl
            rotate_left
            ·simp only [Act.put,pS]
             rfl
            refine take_ (i:=12) (N:=some 103) (v:=?_) (a':=?_) #[true,true,true,true,true,true,true,true,true,true,true,true,true,true,true,false,false,true,true,false,false,false] rfl rfl (take_ofW HT_.out HW_.out (by kernel_rfl)) (fun _ _ _ h => h) (Or.inl ⟨by rfl,?_⟩) hHeld ?_ ?_
            rotate_left
            ·rintro w' ⟨s0,s1,s2,s3,s4,s5,s6,s7,s8,s9⟩
             go_simp
             with_reducible rfl
            rotate_left
            ·simp only [Act.put,pS]
             rfl
            refine take_ (i:=16) (N:=some 107) (v:=?_) (a':=?_) #[true,true,true,true,true,true,true,true,true,true,true,true,true,true,true,false,true,true,true,false,false,false] rfl rfl (take_ofW HT_.out HW_.out (by kernel_rfl)) (fun _ _ _ h => h) (Or.inl ⟨by rfl,?_⟩) hHeld ?_ ?_
            rotate_left
            ·rintro w' ⟨s0,s1,s2,s3,s4,s5,s6,s7,s8,s9⟩
             go_simp
             with_reducible rfl
            rotate_left
            ·simp only [Act.put,pS]
             rfl
            refine one_ (i:=15) (N:=some 106) #[true,true,true,true,true,true,true,true,true,true,true,true,true,true,true,true,true,true,true,false,false,false] rfl rfl (one_of HT_.out (by kernel_rfl)) (by decide) (fun K hK => ?_)
            refine goes_ Try.func21 (by kernel_rfl) rfl #[.agg #[.slice Ao9 t400.length co9,.slice Ao43 x415001_5.length co43,.int .i64 x415002_5,.int .i64 x415003_5,.int .i64 t408],.int .i64 t409,.int .i64 (wrap64 (t433 * (wrap64 (1 + (Int.tmod t434 3)))))] (by rfl) rfl rfl (by (try simp only [List.map_toArray,List.map_cons,List.map_nil]);first|done|rfl|(simp only [List.length_drop,List.length_take];rfl)) ?_
            with_reducible refine (impl_Safe.calls k2 _ _ t400 _ _ x415001_5 x415002_5 x415003_5 t408 t409 (wrap64 (t433 * (wrap64 (1 + (Int.tmod t434 3))))) t437 _ ?side1 ?side2 ?side3 ?side4 A52.out).mono ?_
            (case side1 => repeat (first|exact (Kd.R_reads' HO_415000.out).2.2|(with_reducible refine Kd.C_alloc ?_ _)|(with_reducible refine Kd.C_drewN ?_ _)|(with_reducible refine Kd.C_drew ?_)))
            (case side2 => exact (Kd.R_reads' HO_415000.out).2.1)
            (case side3 => repeat (first|exact (Kd.R_reads' HO_415001.out).2.2|(with_reducible refine Kd.C_alloc ?_ _)|(with_reducible refine Kd.C_drewN ?_ _)|(with_reducible refine Kd.C_drew ?_)))
            (case side4 => exact (Kd.R_reads' HO_415001.out).2.1)
            rintro e w58 ⟨rfl,hb⟩
            refine ⟨_,rfl,?_⟩
            have n0_:=Am (Kd.R_below (by (with_reducible repeat (first|apply Kd.R_alloc|apply Kd.R_drewN|apply Kd.R_drew));exact HO_414000.out) hb)
            have n1_:=Am (Kd.R_below (by (with_reducible repeat (first|apply Kd.R_alloc|apply Kd.R_drewN|apply Kd.R_drew));exact HO_414001.out) hb)
            have n2_:=Am (Kd.R_below (by (with_reducible repeat (first|apply Kd.R_alloc|apply Kd.R_drewN|apply Kd.R_drew));exact HO_415000.out) hb)
            have n3_:=Am (Kd.R_below (by (with_reducible repeat (first|apply Kd.R_alloc|apply Kd.R_drewN|apply Kd.R_drew));exact HO_415001.out) hb)
            have n4_:=Am (blk_below (g:=gb413) (o:=.cells #[.slice Ao9 t400.length co9,.slice Ao11 t403.length co11,.int .i64 t406,.int .i64 t407,.int .i64 t408] 26 (0,0)) (by (with_reducible repeat (first|refine kN ?_ _|refine kD ?_|refine kA ?_ _));exact BK413.out) hb)
            have n5_:=Am (blk_below (g:=gb414) (o:=.cells #[.slice Ao9 t400.length co9,.slice Ao43 x415001_5.length co43,.int .i64 x415002_5,.int .i64 x415003_5,.int .i64 t408] 26 (0,0)) (by (with_reducible repeat (first|refine kN ?_ _|refine kD ?_|refine kA ?_ _));exact BK414.out) hb)
            have n6_:=Am (below_step (by repeat (first|(with_reducible first|exact HB.out|apply bA|apply bN|apply bD|refine bS ?_ GE413.out|refine bS ?_ GE414.out)|exact HB.out)) hb)
            clear HO_414000
            clear HO_414001
            clear HO_415000
            clear HO_415001
            clear BK413
            clear BK414
            clear HB
            have HO_414000:=n0_
            have HO_414001:=n1_
            have HO_415000:=n2_
            have HO_415001:=n3_
            have BK413:=n4_
            have BK414:=n5_
            have HB:=n6_
            clear n0_ n1_ n2_ n3_ n4_ n5_ n6_
            (try clear hb)
            (try clear hb2)
            (try clear hk)
            (try clear hi)
            refine hK.out _ _ ⟨(kC BK414.out 0).trans rfl,(kC BK414.out 1).trans rfl,(kC BK414.out 2).trans rfl,(kC BK414.out 3).trans rfl,(kC BK414.out 4).trans rfl,(kC BK413.out 0).trans rfl,(kC BK413.out 1).trans rfl,(kC BK413.out 2).trans rfl,(kC BK413.out 3).trans rfl,(kC BK413.out 4).trans rfl⟩ (fun hHeld => ?_)
            clear hK K
            refine norm_ (a':=?_) ?_ ?_
            rotate_left
            ·show Act.put _ (some 106) _ = _
             simp only [Act.put,pS]
             rfl
            refine one_ (i:=19) (N:=some 110) #[true,true,true,true,true,true,true,true,true,true,true,true,true,true,true,true,true,true,true,true,false,false] rfl rfl (one_of HT_.out (by kernel_rfl)) (by decide) (fun K hK => ?_)
            refine goes_ Try.func22 (by kernel_rfl) rfl #[.agg #[.slice Ao9 t400.length co9,.slice Ao43 x415001_5.length co43,.int .i64 x415002_5,.int .i64 x415003_5,.int .i64 t408],.int .i64 t409,.int .i64 (wrap64 (t433 * (wrap64 (1 + (Int.tmod t434 3)))))] (by rfl) rfl rfl (by (try simp only [List.map_toArray,List.map_cons,List.map_nil]);first|done|rfl|(simp only [List.length_drop,List.length_take];rfl)) ?_
            with_reducible refine (spec_Safe.calls k2 _ _ t400 _ _ x415001_5 x415002_5 x415003_5 t408 t409 (wrap64 (t433 * (wrap64 (1 + (Int.tmod t434 3))))) t438 _ ?side1 ?side2 ?side3 ?side4 A53.out).mono ?_
            (case side1 => repeat (first|exact (Kd.R_reads' HO_415000.out).2.2|(with_reducible refine Kd.C_alloc ?_ _)|(with_reducible refine Kd.C_drewN ?_ _)|(with_reducible refine Kd.C_drew ?_)))
            (case side2 => exact (Kd.R_reads' HO_415000.out).2.1)
            (case side3 => repeat (first|exact (Kd.R_reads' HO_415001.out).2.2|(with_reducible refine Kd.C_alloc ?_ _)|(with_reducible refine Kd.C_drewN ?_ _)|(with_reducible refine Kd.C_drew ?_)))
            (case side4 => exact (Kd.R_reads' HO_415001.out).2.1)
            rintro e w59 ⟨rfl,hb⟩
            refine ⟨_,rfl,?_⟩
            have n0_:=Am (Kd.R_below (by (with_reducible repeat (first|apply Kd.R_alloc|apply Kd.R_drewN|apply Kd.R_drew));exact HO_414000.out) hb)
            have n1_:=Am (Kd.R_below (by (with_reducible repeat (first|apply Kd.R_alloc|apply Kd.R_drewN|apply Kd.R_drew));exact HO_414001.out) hb)
            have n2_:=Am (Kd.R_below (by (with_reducible repeat (first|apply Kd.R_alloc|apply Kd.R_drewN|apply Kd.R_drew));exact HO_415000.out) hb)
            have n3_:=Am (Kd.R_below (by (with_reducible repeat (first|apply Kd.R_alloc|apply Kd.R_drewN|apply Kd.R_drew));exact HO_415001.out) hb)
            have n4_:=Am (blk_below (g:=gb413) (o:=.cells #[.slice Ao9 t400.length co9,.slice Ao11 t403.length co11,.int .i64 t406,.int .i64 t407,.int .i64 t408] 26 (0,0)) (by (with_reducible repeat (first|refine kN ?_ _|refine kD ?_|refine kA ?_ _));exact BK413.out) hb)
            have n5_:=Am (blk_below (g:=gb414) (o:=.cells #[.slice Ao9 t400.length co9,.slice Ao43 x415001_5.length co43,.int .i64 x415002_5,.int .i64 x415003_5,.int .i64 t408] 26 (0,0)) (by (with_reducible repeat (first|refine kN ?_ _|refine kD ?_|refine kA ?_ _));exact BK414.out) hb)
            have n6_:=Am (below_step (by repeat (first|(with_reducible first|exact HB.out|apply bA|apply bN|apply bD|refine bS ?_ GE413.out|refine bS ?_ GE414.out)|exact HB.out)) hb)
            clear HO_414000
            clear HO_414001
            clear HO_415000
            clear HO_415001
            clear BK413
            clear BK414
            clear HB
            have HO_414000:=n0_
            have HO_414001:=n1_
            have HO_415000:=n2_
            have HO_415001:=n3_
            have BK413:=n4_
            have BK414:=n5_
            have HB:=n6_
            clear n0_ n1_ n2_ n3_ n4_ n5_ n6_
            (try clear hb)
            (try clear hb2)
            (try clear hk)
            (try clear hi)
            refine hK.out _ _ ⟨(kC BK414.out 0).trans rfl,(kC BK414.out 1).trans rfl,(kC BK414.out 2).trans rfl,(kC BK414.out 3).trans rfl,(kC BK414.out 4).trans rfl,(kC BK413.out 0).trans rfl,(kC BK413.out 1).trans rfl,(kC BK413.out 2).trans rfl,(kC BK413.out 3).trans rfl,(kC BK413.out 4).trans rfl⟩ (fun hHeld => ?_)
            clear hK K
            refine norm_ (a':=?_) ?_ ?_
            rotate_left
            ·show Act.put _ (some 110) _ = _
             simp only [Act.put,pS]
             rfl
            refine pure_ (i:=20) (N:=some 111) (v:=?_) (a':=?_) #[true,true,true,true,true,true,true,true,true,true,true,true,true,true,true,true,true,true,true,true,true,false] rfl rfl (any_of HT_.out (by kernel_rfl)) (fun _ _ _ h => h) (Or.inl ⟨by rfl,?_⟩) ?_ ?_
            rotate_left
            ·intro w'
             go_simp
             with_reducible rfl
            rotate_left
            ·simp only [Act.put,pS]
             rfl
            refine pure_ (i:=21) (N:=some 112) (v:=?_) (a':=?_) #[true,true,true,true,true,true,true,true,true,true,true,true,true,true,true,true,true,true,true,true,true,true] rfl rfl (any_of HT_.out (by kernel_rfl)) (fun _ _ _ h => h) (Or.inl ⟨by rfl,?_⟩) ?_ ?_
            rotate_left
            ·intro w'
             go_simp
             with_reducible rfl
            rotate_left
            ·simp only [Act.put,pS]
             rfl
            refine done_ (done_of HT_.out (by kernel_rfl)) ?_
            try go_wp2
            go_roundg k2
            case measure => have:=HJ5.out;have:=HK2.out;omega
            case rel => exact ⟨(wrap64 (x7_2 + 1)),(by first|rfl|(simp;done)|(simp [*];done)),H',⟨by have:=HJ5.out;have:=HK2.out;omega⟩,⟨by (with_reducible repeat (first|apply Kd.R_alloc|apply Kd.R_drewN|apply Kd.R_drew));exact HO_414000.out⟩,⟨by (with_reducible repeat (first|apply Kd.R_alloc|apply Kd.R_drewN|apply Kd.R_drew));exact HO_414001.out⟩,⟨by (with_reducible repeat (first|apply Kd.R_alloc|apply Kd.R_drewN|apply Kd.R_drew));exact HO_415000.out⟩,⟨by (with_reducible repeat (first|apply Kd.R_alloc|apply Kd.R_drewN|apply Kd.R_drew));exact HO_415001.out⟩,⟨by (with_reducible repeat (first|refine kN ?_ _|refine kD ?_|refine kA ?_ _));exact BK413.out⟩,⟨by (with_reducible repeat (first|refine kN ?_ _|refine kD ?_|refine kA ?_ _));exact BK414.out⟩,⟨by repeat (first|(with_reducible first|exact HB.out|apply bA|apply bN|apply bD|refine bS ?_ GE413.out|refine bS ?_ GE414.out)|exact HB.out)⟩⟩
          ·replace c51:=Bool.eq_false_iff.mpr c51
           subst c51
           have H1 : (some false) = some r:=by rw [if_neg (show ¬ (false = true) by decide)] at H;exact H
           clear H
           have H:=H1
           clear H1
           exact absurd H (by rw [hrt.out];simp)
         ·replace c49:=Bool.eq_false_iff.mpr c49
          subst c49
          have H1 : ((impl_Safe.f k2 t400 x415001_5 x415002_5 x415003_5 t408 t409 (wrap64 (t433 * (wrap64 (1 + (Int.tmod t434 3)))))).bind fun t439 => ((spec_Safe.f k2 t400 x415001_5 x415002_5 x415003_5 t408 t409 (wrap64 (t433 * (wrap64 (1 + (Int.tmod t434 3)))))).bind fun t440 => (if (t439 != t440) = true then (some false) else (laws_FnTight.l0 k2 l0 t409 (wrap64 (x7_2 + 1)) t400 t403 t406 t407 t408 t400 x415001_5 x415002_5 x415003_5 t408)))) = some r:=by rw [if_neg (show ¬ (false = true) by decide)] at H;exact H
          clear H
          have H:=H1
          clear H1
          replace H:=Option.bind_eq_some_iff.mp H
          obtain ⟨t439,A600,H⟩:=H
          replace H : ((spec_Safe.f k2 t400 x415001_5 x415002_5 x415003_5 t408 t409 (wrap64 (t433 * (wrap64 (1 + (Int.tmod t434 3)))))).bind fun t440 => (if (t439 != t440) = true then (some false) else (laws_FnTight.l0 k2 l0 t409 (wrap64 (x7_2 + 1)) t400 t403 t406 t407 t408 t400 x415001_5 x415002_5 x415003_5 t408))) = some r:=H
          have A60:=Am A600
          clear A600
          replace H:=Option.bind_eq_some_iff.mp H
          obtain ⟨t440,A610,H⟩:=H
          replace H : (if (t439 != t440) = true then (some false) else (laws_FnTight.l0 k2 l0 t409 (wrap64 (x7_2 + 1)) t400 t403 t406 t407 t408 t400 x415001_5 x415002_5 x415003_5 t408)) = some r:=H
          have A61:=Am A610
          clear A610
          by_cases c62 : (t439 != t440) = true
          ·rw [if_pos c62] at H
           have c62b0 : (t439 != t440) = true:=c62
           (try (have c62b1 : decide (t439 = t440) = false:=by simpa using c62))
           (try (have c62b2 : (t439 == t440) = false:=by simpa using c62))
           (try (have c62b3 : ¬ (t439 = t440):=by simpa using c62))
           clear c62
           exact absurd H (by rw [hrt.out];simp)
          ·rw [if_neg c62] at H
           have c62b0 : (t439 != t440) = false:=by simpa using c62
           (try (have c62b1 : decide (t439 = t440) = true:=by simpa using c62))
           (try (have c62b2 : (t439 == t440) = true:=by simpa using c62))
           clear c62
           have H':=Am H
           clear H
           try go_wp2_with (first|((with_reducible refine gate_callee (f:=15) rfl ?_);refine goesL_ (some 84) rfl rfl Try.func15 (by kernel_rfl) rfl #[.slice A0 l0.length c0,.int .i64 (wrap64 (x7_2 + 3))] rfl (by (try simp only [List.map_toArray,List.map_cons,List.map_nil]);first|done|rfl|(simp only [List.length_drop,List.length_take];rfl)) ?_;(with_reducible refine (laws_wByte.calls _ _ l0 (wrap64 (x7_2 + 3)) t433 _ ?side1 ?side2 A46.out).mono ?_);(case side1 => repeat (first|exact (Kd.C_below HR0.out HB.out)|(with_reducible refine Kd.C_alloc ?_ _)|(with_reducible refine Kd.C_drewN ?_ _)|(with_reducible refine Kd.C_drew ?_)));(case side2 => exact HC0.out);rintro e w' ⟨rfl,⟨nd,rfl⟩⟩;refine ⟨_,rfl,?_⟩)|((with_reducible refine gate_callee (f:=15) rfl ?_);refine goesL_ (some 87) rfl rfl Try.func15 (by kernel_rfl) rfl #[.slice A0 l0.length c0,.int .i64 x7_2] rfl (by (try simp only [List.map_toArray,List.map_cons,List.map_nil]);first|done|rfl|(simp only [List.length_drop,List.length_take];rfl)) ?_;(with_reducible refine (laws_wByte.calls _ _ l0 x7_2 t434 _ ?side1 ?side2 A47.out).mono ?_);(case side1 => repeat (first|exact (Kd.C_below HR0.out (by repeat (first|(with_reducible first|exact HB.out|apply bA|apply bN|apply bD|refine bS ?_ GE413.out|refine bS ?_ GE414.out)|exact HB.out)))|(with_reducible refine Kd.C_alloc ?_ _)|(with_reducible refine Kd.C_drewN ?_ _)|(with_reducible refine Kd.C_drew ?_)));(case side2 => exact HC0.out);rintro e w' ⟨rfl,⟨nd,rfl⟩⟩;refine ⟨_,rfl,?_⟩))
           (try (rw [drewN_self wr];generalize hq_ : World.drewN wr _ = wr;have n0_ : As (Kd.R k39 39 wr w.heap.size (fun _ => True) (.slice Ao9 t400.length co9) t400):=⟨by rw [← hq_];exact (by (with_reducible repeat (first|apply Kd.R_alloc|apply Kd.R_drewN|apply Kd.R_drew));exact HO_414000.out)⟩;have n1_ : As (Kd.R k45 45 wr w.heap.size (fun k_ => some k_ ≠ (.slice Ao43 x415001_5.length co43 : Value).ownBlock) (.slice Ao11 t403.length co11) t403):=⟨by rw [← hq_];exact (by (with_reducible repeat (first|apply Kd.R_alloc|apply Kd.R_drewN|apply Kd.R_drew));exact HO_414001.out)⟩;have n2_ : As (Kd.R k39 39 wr w.heap.size (fun _ => True) (.slice Ao9 t400.length co9) t400):=⟨by rw [← hq_];exact (by (with_reducible repeat (first|apply Kd.R_alloc|apply Kd.R_drewN|apply Kd.R_drew));exact HO_415000.out)⟩;have n3_ : As (Kd.R k45 45 wr w.heap.size (fun k_ => some k_ ≠ (.slice Ao11 t403.length co11 : Value).ownBlock) (.slice Ao43 x415001_5.length co43) x415001_5):=⟨by rw [← hq_];exact (by (with_reducible repeat (first|apply Kd.R_alloc|apply Kd.R_drewN|apply Kd.R_drew));exact HO_415001.out)⟩;have n4_ : As (wr.heap[gb413]? = some (.cells #[.slice Ao9 t400.length co9,.slice Ao11 t403.length co11,.int .i64 t406,.int .i64 t407,.int .i64 t408] 26 (0,0))):=⟨by rw [← hq_];exact (by (with_reducible repeat (first|refine kN ?_ _|refine kD ?_|refine kA ?_ _));exact BK413.out)⟩;have n5_ : As (wr.heap[gb414]? = some (.cells #[.slice Ao9 t400.length co9,.slice Ao43 x415001_5.length co43,.int .i64 x415002_5,.int .i64 x415003_5,.int .i64 t408] 26 (0,0))):=⟨by rw [← hq_];exact (by (with_reducible repeat (first|refine kN ?_ _|refine kD ?_|refine kA ?_ _));exact BK414.out)⟩;have n6_ : As (Below w.heap.size w wr):=⟨by rw [← hq_];exact (by repeat (first|(with_reducible first|exact HB.out|apply bA|apply bN|apply bD|refine bS ?_ GE413.out|refine bS ?_ GE414.out)|exact HB.out))⟩;clear HO_414000 HO_414001 HO_415000 HO_415001 BK413 BK414 HB hq_;have HO_414000:=n0_;have HO_414001:=n1_;have HO_415000:=n2_;have HO_415001:=n3_;have BK413:=n4_;have BK414:=n5_;have HB:=n6_;clear n0_ n1_ n2_ n3_ n4_ n5_ n6_))
           have n0_:=Am (Kd.R_drew HO_414000.out)
           have n1_:=Am (Kd.R_drew HO_414001.out)
           have n2_:=Am (Kd.R_drew HO_415000.out)
           have n3_:=Am (Kd.R_drew HO_415001.out)
           have n4_:=Am (kD BK413.out)
           have n5_:=Am (kD BK414.out)
           have n6_:=Am (bD HB.out)
           clear HO_414000
           clear HO_414001
           clear HO_415000
           clear HO_415001
           clear BK413
           clear BK414
           clear HB
           have HO_414000:=n0_
           have HO_414001:=n1_
           have HO_415000:=n2_
           have HO_415001:=n3_
           have BK413:=n4_
           have BK414:=n5_
           have HB:=n6_
           clear n0_ n1_ n2_ n3_ n4_ n5_ n6_
           refine start_ (n:=22) (S:=fun w' => w'.cell? ⟨gb414,0,none⟩ = some (.slice Ao9 t400.length co9)∧w'.cell? ⟨gb414,1,none⟩ = some (.slice Ao43 x415001_5.length co43)∧w'.cell? ⟨gb414,2,none⟩ = some (.int .i64 x415002_5)∧w'.cell? ⟨gb414,3,none⟩ = some (.int .i64 x415003_5)∧w'.cell? ⟨gb414,4,none⟩ = some (.int .i64 t408)) (ds:=[]) #[false,false,false,false,false,false,false,false,false,false,false,false,false,false,false,false,false,false,false,false,false,false] (by kernel_rfl) rfl rfl ⟨(kC BK414.out 0).trans rfl,(kC BK414.out 1).trans rfl,(kC BK414.out 2).trans rfl,(kC BK414.out 3).trans rfl,(kC BK414.out 4).trans rfl⟩ (fun hHeld => ?_);refine with_tabW laws_FnTight.tab18 laws_FnTight.bits18 (fun HT_ HW_ => ?_)
           generalize wr.drew = w63 at HO_414000 HO_414001 HO_415000 HO_415001 BK413 BK414 HB hHeld ⊢
           refine pure_ (i:=1) (N:=some 92) (v:=?_) (a':=?_) #[false,true,false,false,false,false,false,false,false,false,false,false,false,false,false,false,false,false,false,false,false,false] rfl rfl (any_of HT_.out (by kernel_rfl)) (fun _ _ _ h => h) (Or.inl ⟨by rfl,?_⟩) ?_ ?_
           rotate_left
           ·intro w'
            go_simp
            with_reducible rfl
           rotate_left
           ·simp only [Act.put,pS]
            rfl
           refine pure_ (i:=2) (N:=some 93) (v:=?_) (a':=?_) #[false,true,true,false,false,false,false,false,false,false,false,false,false,false,false,false,false,false,false,false,false,false] rfl rfl (any_of HT_.out (by kernel_rfl)) (fun _ _ _ h => h) (Or.inl ⟨by rfl,?_⟩) ?_ ?_
           rotate_left
           ·intro w'
            go_simp
            with_reducible rfl
           rotate_left
           ·simp only [Act.put,pS]
            rfl
           refine take_ (i:=0) (N:=some 91) (v:=?_) (a':=?_) #[true,true,true,false,false,false,false,false,false,false,false,false,false,false,false,false,false,false,false,false,false,false] rfl rfl (take_ofW HT_.out HW_.out (by kernel_rfl)) (fun _ _ _ h => h) (Or.inl ⟨by rfl,?_⟩) hHeld ?_ ?_
           rotate_left
           ·rintro w' ⟨s0,s1,s2,s3,s4⟩
            go_simp
            with_reducible rfl
           rotate_left
           ·simp only [Act.put,pS]
            rfl
           refine one_ (i:=3) (N:=some 94) #[true,true,true,true,false,false,false,false,false,false,false,false,false,false,false,false,false,false,false,false,false,false] rfl rfl (one_of HT_.out (by kernel_rfl)) (by decide) (fun K hK => ?_)
           refine goes_ Try.func21 (by kernel_rfl) rfl #[.agg #[.slice Ao9 t400.length co9,.slice Ao43 x415001_5.length co43,.int .i64 x415002_5,.int .i64 x415003_5,.int .i64 t408],.int .i64 t409,.int .i64 (wrap64 (t433 * (wrap64 (1 + (Int.tmod t434 3)))))] (by rfl) rfl rfl (by (try simp only [List.map_toArray,List.map_cons,List.map_nil]);first|done|rfl|(simp only [List.length_drop,List.length_take];rfl)) ?_
           with_reducible refine (impl_Safe.calls k2 _ _ t400 _ _ x415001_5 x415002_5 x415003_5 t408 t409 (wrap64 (t433 * (wrap64 (1 + (Int.tmod t434 3))))) false _ ?side1 ?side2 ?side3 ?side4 A48.out).mono ?_
           (case side1 => repeat (first|exact (Kd.R_reads' HO_415000.out).2.2|(with_reducible refine Kd.C_alloc ?_ _)|(with_reducible refine Kd.C_drewN ?_ _)|(with_reducible refine Kd.C_drew ?_)))
           (case side2 => exact (Kd.R_reads' HO_415000.out).2.1)
           (case side3 => repeat (first|exact (Kd.R_reads' HO_415001.out).2.2|(with_reducible refine Kd.C_alloc ?_ _)|(with_reducible refine Kd.C_drewN ?_ _)|(with_reducible refine Kd.C_drew ?_)))
           (case side4 => exact (Kd.R_reads' HO_415001.out).2.1)
           rintro e w64 ⟨rfl,hb⟩
           refine ⟨_,rfl,?_⟩
           have n0_:=Am (Kd.R_below (by (with_reducible repeat (first|apply Kd.R_alloc|apply Kd.R_drewN|apply Kd.R_drew));exact HO_414000.out) hb)
           have n1_:=Am (Kd.R_below (by (with_reducible repeat (first|apply Kd.R_alloc|apply Kd.R_drewN|apply Kd.R_drew));exact HO_414001.out) hb)
           have n2_:=Am (Kd.R_below (by (with_reducible repeat (first|apply Kd.R_alloc|apply Kd.R_drewN|apply Kd.R_drew));exact HO_415000.out) hb)
           have n3_:=Am (Kd.R_below (by (with_reducible repeat (first|apply Kd.R_alloc|apply Kd.R_drewN|apply Kd.R_drew));exact HO_415001.out) hb)
           have n4_:=Am (blk_below (g:=gb413) (o:=.cells #[.slice Ao9 t400.length co9,.slice Ao11 t403.length co11,.int .i64 t406,.int .i64 t407,.int .i64 t408] 26 (0,0)) (by (with_reducible repeat (first|refine kN ?_ _|refine kD ?_|refine kA ?_ _));exact BK413.out) hb)
           have n5_:=Am (blk_below (g:=gb414) (o:=.cells #[.slice Ao9 t400.length co9,.slice Ao43 x415001_5.length co43,.int .i64 x415002_5,.int .i64 x415003_5,.int .i64 t408] 26 (0,0)) (by (with_reducible repeat (first|refine kN ?_ _|refine kD ?_|refine kA ?_ _));exact BK414.out) hb)
           have n6_:=Am (below_step (by repeat (first|(with_reducible first|exact HB.out|apply bA|apply bN|apply bD|refine bS ?_ GE413.out|refine bS ?_ GE414.out)|exact HB.out)) hb)
           clear HO_414000
           clear HO_414001
           clear HO_415000
           clear HO_415001
           clear BK413
           clear BK414
           clear HB
           have HO_414000:=n0_
           have HO_414001:=n1_
           have HO_415000:=n2_
           have HO_415001:=n3_
           have BK413:=n4_
           have BK414:=n5_
           have HB:=n6_
           clear n0_ n1_ n2_ n3_ n4_ n5_ n6_
           (try clear hb)
           (try clear hb2)
           (try clear hk)
           (try clear hi)
           refine hK.out _ _ ⟨(kC BK414.out 0).trans rfl,(kC BK414.out 1).trans rfl,(kC BK414.out 2).trans rfl,(kC BK414.out 3).trans rfl,(kC BK414.out 4).trans rfl⟩ (fun hHeld => ?_)
           clear hK K
           refine norm_ (a':=?_) ?_ ?_
           rotate_left
           ·show Act.put _ (some 94) _ = _
            simp only [Act.put,pS]
            rfl
           refine pure_ (i:=4) (N:=some 95) (v:=?_) (a':=?_) #[true,true,true,true,true,false,false,false,false,false,false,false,false,false,false,false,false,false,false,false,false,false] rfl rfl (any_of HT_.out (by kernel_rfl)) (fun _ _ _ h => h) (Or.inl ⟨by rfl,?_⟩) ?_ ?_
           rotate_left
           ·intro w'
            go_simp
            with_reducible rfl
           rotate_left
           ·simp only [Act.put,pS]
            rfl
           refine pure_ (i:=5) (N:=some 96) (v:=undef) (a':=?_) #[true,true,true,true,true,true,false,false,false,false,false,false,false,false,false,false,false,false,false,false,false,false] rfl rfl (any_of HT_.out (by kernel_rfl)) (fun _ _ _ h => h) (Or.inr ⟨by rfl,rfl⟩) ?_ ?_
           rotate_left
           ·simp only [Act.put,pS]
            rfl
           refine pure_ (i:=6) (N:=some 97) (v:=undef) (a':=?_) #[true,true,true,true,true,true,true,false,false,false,false,false,false,false,false,false,false,false,false,false,false,false] rfl rfl (any_of HT_.out (by kernel_rfl)) (fun _ _ _ h => h) (Or.inr ⟨by rfl,rfl⟩) ?_ ?_
           rotate_left
           ·simp only [Act.put,pS]
            rfl
           refine pure_ (i:=7) (N:=some 98) (v:=undef) (a':=?_) #[true,true,true,true,true,true,true,true,false,false,false,false,false,false,false,false,false,false,false,false,false,false] rfl rfl (any_of HT_.out (by kernel_rfl)) (fun _ _ _ h => h) (Or.inr ⟨by rfl,rfl⟩) ?_ ?_
           rotate_left
           ·simp only [Act.put,pS]
            rfl
           refine pure_ (i:=8) (N:=some 99) (v:=undef) (a':=?_) #[true,true,true,true,true,true,true,true,true,false,false,false,false,false,false,false,false,false,false,false,false,false] rfl rfl (any_of HT_.out (by kernel_rfl)) (fun _ _ _ h => h) (Or.inr ⟨by rfl,rfl⟩) ?_ ?_
           rotate_left
           ·simp only [Act.put,pS]
            rfl
           refine pure_ (i:=9) (N:=some 100) (v:=undef) (a':=?_) #[true,true,true,true,true,true,true,true,true,true,false,false,false,false,false,false,false,false,false,false,false,false] rfl rfl (any_of HT_.out (by kernel_rfl)) (fun _ _ _ h => h) (Or.inr ⟨by rfl,rfl⟩) ?_ ?_
           rotate_left
           ·simp only [Act.put,pS]
            rfl
           refine pure_ (i:=10) (N:=some 101) (v:=?_) (a':=?_) #[true,true,true,true,true,true,true,true,true,true,true,false,false,false,false,false,false,false,false,false,false,false] rfl rfl (any_of HT_.out (by kernel_rfl)) (fun _ _ _ h => h) (Or.inl ⟨by rfl,?_⟩) ?_ ?_
           rotate_left
           ·intro w'
            go_simp
            with_reducible rfl
           rotate_left
           ·simp only [Act.put,pS]
            rfl
           refine pure_ (i:=11) (N:=some 102) (v:=?_) (a':=?_) #[true,true,true,true,true,true,true,true,true,true,true,true,false,false,false,false,false,false,false,false,false,false] rfl rfl (any_of HT_.out (by kernel_rfl)) (fun _ _ _ h => h) (Or.inl ⟨by rfl,?_⟩) ?_ ?_
           rotate_left
           ·intro w'
            go_simp
            with_reducible rfl
           rotate_left
           ·simp only [Act.put,pS]
            rfl
           refine pure_ (i:=13) (N:=some 104) (v:=?_) (a':=?_) #[true,true,true,true,true,true,true,true,true,true,true,true,false,true,false,false,false,false,false,false,false,false] rfl rfl (any_of HT_.out (by kernel_rfl)) (fun _ _ _ h => h) (Or.inl ⟨by rfl,?_⟩) ?_ ?_
           rotate_left
           ·intro w'
            go_simp
            with_reducible rfl
           rotate_left
           ·simp only [Act.put,pS]
            rfl
           refine pure_ (i:=14) (N:=some 105) (v:=?_) (a':=?_) #[true,true,true,true,true,true,true,true,true,true,true,true,false,true,true,false,false,false,false,false,false,false] rfl rfl (any_of HT_.out (by kernel_rfl)) (fun _ _ _ h => h) (Or.inl ⟨by rfl,?_⟩) ?_ ?_
           rotate_left
           ·intro w'
            go_simp
            with_reducible rfl
           rotate_left
           ·simp only [Act.put,pS]
            rfl
           refine pure_ (i:=17) (N:=some 108) (v:=?_) (a':=?_) #[true,true,true,true,true,true,true,true,true,true,true,true,false,true,true,false,false,true,false,false,false,false] rfl rfl (any_of HT_.out (by kernel_rfl)) (fun _ _ _ h => h) (Or.inl ⟨by rfl,?_⟩) ?_ ?_
           rotate_left
           ·intro w'
            go_simp
            with_reducible rfl
           rotate_left
           ·simp only [Act.put,pS]
            rfl
           refine pure_ (i:=18) (N:=some 109) (v:=?_) (a':=?_) #[true,true,true,true,true,true,true,true,true,true,true,true,false,true,true,false,false,true,true,false,false,false] rfl rfl (any_of HT_.out (by kernel_rfl)) (fun _ _ _ h => h) (Or.inl ⟨by rfl,?_⟩) ?_ ?_
           rotate_left
           ·intro w'
            go_simp
            with_reducible rfl
           rotate_left
           ·simp only [Act.put,pS]
            rfl
           refine take_ (i:=12) (N:=some 103) (v:=?_) (a':=?_) #[true,true,true,true,true,true,true,true,true,true,true,true,true,true,true,false,false,true,true,false,false,false] rfl rfl (take_ofW HT_.out HW_.out (by kernel_rfl)) (fun _ _ _ h => h) (Or.inl ⟨by rfl,?_⟩) hHeld ?_ ?_
           rotate_left
           ·rintro w' ⟨s0,s1,s2,s3,s4⟩
            go_simp
            with_reducible rfl
           rotate_left
           ·simp only [Act.put,pS]
            rfl
           refine take_ (i:=16) (N:=some 107) (v:=?_) (a':=?_) #[true,true,true,true,true,true,true,true,true,true,true,true,true,true,true,false,true,true,true,false,false,false] rfl rfl (take_ofW HT_.out HW_.out (by kernel_rfl)) (fun _ _ _ h => h) (Or.inl ⟨by rfl,?_⟩) hHeld ?_ ?_
           rotate_left
           ·rintro w' ⟨s0,s1,s2,s3,s4⟩
            go_simp
            with_reducible rfl
           rotate_left
           ·simp only [Act.put,pS]
            rfl
           refine one_ (i:=15) (N:=some 106) #[true,true,true,true,true,true,true,true,true,true,true,true,true,true,true,true,true,true,true,false,false,false] rfl rfl (one_of HT_.out (by kernel_rfl)) (by decide) (fun K hK => ?_)
           refine goes_ Try.func21 (by kernel_rfl) rfl #[.agg #[.slice Ao9 t400.length co9,.slice Ao43 x415001_5.length co43,.int .i64 x415002_5,.int .i64 x415003_5,.int .i64 t408],.int .i64 t409,.int .i64 (wrap64 (t433 * (wrap64 (1 + (Int.tmod t434 3)))))] (by rfl) rfl rfl (by (try simp only [List.map_toArray,List.map_cons,List.map_nil]);first|done|rfl|(simp only [List.length_drop,List.length_take];rfl)) ?_
           with_reducible refine (impl_Safe.calls k2 _ _ t400 _ _ x415001_5 x415002_5 x415003_5 t408 t409 (wrap64 (t433 * (wrap64 (1 + (Int.tmod t434 3))))) t439 _ ?side1 ?side2 ?side3 ?side4 A60.out).mono ?_
           (case side1 => repeat (first|exact (Kd.R_reads' HO_415000.out).2.2|(with_reducible refine Kd.C_alloc ?_ _)|(with_reducible refine Kd.C_drewN ?_ _)|(with_reducible refine Kd.C_drew ?_)))
           (case side2 => exact (Kd.R_reads' HO_415000.out).2.1)
           (case side3 => repeat (first|exact (Kd.R_reads' HO_415001.out).2.2|(with_reducible refine Kd.C_alloc ?_ _)|(with_reducible refine Kd.C_drewN ?_ _)|(with_reducible refine Kd.C_drew ?_)))
           (case side4 => exact (Kd.R_reads' HO_415001.out).2.1)
           rintro e w65 ⟨rfl,hb⟩
           refine ⟨_,rfl,?_⟩
           have n0_:=Am (Kd.R_below (by (with_reducible repeat (first|apply Kd.R_alloc|apply Kd.R_drewN|apply Kd.R_drew));exact HO_414000.out) hb)
           have n1_:=Am (Kd.R_below (by (with_reducible repeat (first|apply Kd.R_alloc|apply Kd.R_drewN|apply Kd.R_drew));exact HO_414001.out) hb)
           have n2_:=Am (Kd.R_below (by (with_reducible repeat (first|apply Kd.R_alloc|apply Kd.R_drewN|apply Kd.R_drew));exact HO_415000.out) hb)
           have n3_:=Am (Kd.R_below (by (with_reducible repeat (first|apply Kd.R_alloc|apply Kd.R_drewN|apply Kd.R_drew));exact HO_415001.out) hb)
           have n4_:=Am (blk_below (g:=gb413) (o:=.cells #[.slice Ao9 t400.length co9,.slice Ao11 t403.length co11,.int .i64 t406,.int .i64 t407,.int .i64 t408] 26 (0,0)) (by (with_reducible repeat (first|refine kN ?_ _|refine kD ?_|refine kA ?_ _));exact BK413.out) hb)
           have n5_:=Am (blk_below (g:=gb414) (o:=.cells #[.slice Ao9 t400.length co9,.slice Ao43 x415001_5.length co43,.int .i64 x415002_5,.int .i64 x415003_5,.int .i64 t408] 26 (0,0)) (by (with_reducible repeat (first|refine kN ?_ _|refine kD ?_|refine kA ?_ _));exact BK414.out) hb)
           have n6_:=Am (below_step (by repeat (first|(with_reducible first|exact HB.out|apply bA|apply bN|apply bD|refine bS ?_ GE413.out|refine bS ?_ GE414.out)|exact HB.out)) hb)
           clear HO_414000
           clear HO_414001
           clear HO_415000
           clear HO_415001
           clear BK413
           clear BK414
           clear HB
           have HO_414000:=n0_
           have HO_414001:=n1_
           have HO_415000:=n2_
           have HO_415001:=n3_
           have BK413:=n4_
           have BK414:=n5_
           have HB:=n6_
           clear n0_ n1_ n2_ n3_ n4_ n5_ n6_
           (try clear hb)
           (try clear hb2)
           (try clear hk)
           (try clear hi)
           refine hK.out _ _ ⟨(kC BK414.out 0).trans rfl,(kC BK414.out 1).trans rfl,(kC BK414.out 2).trans rfl,(kC BK414.out 3).trans rfl,(kC BK414.out 4).trans rfl⟩ (fun hHeld => ?_)
           clear hK K
           refine norm_ (a':=?_) ?_ ?_
           rotate_left
           ·show Act.put _ (some 106) _ = _
            simp only [Act.put,pS]
            rfl
           refine one_ (i:=19) (N:=some 110) #[true,true,true,true,true,true,true,true,true,true,true,true,true,true,true,true,true,true,true,true,false,false] rfl rfl (one_of HT_.out (by kernel_rfl)) (by decide) (fun K hK => ?_)
           refine goes_ Try.func22 (by kernel_rfl) rfl #[.agg #[.slice Ao9 t400.length co9,.slice Ao43 x415001_5.length co43,.int .i64 x415002_5,.int .i64 x415003_5,.int .i64 t408],.int .i64 t409,.int .i64 (wrap64 (t433 * (wrap64 (1 + (Int.tmod t434 3)))))] (by rfl) rfl rfl (by (try simp only [List.map_toArray,List.map_cons,List.map_nil]);first|done|rfl|(simp only [List.length_drop,List.length_take];rfl)) ?_
           with_reducible refine (spec_Safe.calls k2 _ _ t400 _ _ x415001_5 x415002_5 x415003_5 t408 t409 (wrap64 (t433 * (wrap64 (1 + (Int.tmod t434 3))))) t440 _ ?side1 ?side2 ?side3 ?side4 A61.out).mono ?_
           (case side1 => repeat (first|exact (Kd.R_reads' HO_415000.out).2.2|(with_reducible refine Kd.C_alloc ?_ _)|(with_reducible refine Kd.C_drewN ?_ _)|(with_reducible refine Kd.C_drew ?_)))
           (case side2 => exact (Kd.R_reads' HO_415000.out).2.1)
           (case side3 => repeat (first|exact (Kd.R_reads' HO_415001.out).2.2|(with_reducible refine Kd.C_alloc ?_ _)|(with_reducible refine Kd.C_drewN ?_ _)|(with_reducible refine Kd.C_drew ?_)))
           (case side4 => exact (Kd.R_reads' HO_415001.out).2.1)
           rintro e w66 ⟨rfl,hb⟩
           refine ⟨_,rfl,?_⟩
           have n0_:=Am (Kd.R_below (by (with_reducible repeat (first|apply Kd.R_alloc|apply Kd.R_drewN|apply Kd.R_drew));exact HO_414000.out) hb)
           have n1_:=Am (Kd.R_below (by (with_reducible repeat (first|apply Kd.R_alloc|apply Kd.R_drewN|apply Kd.R_drew));exact HO_414001.out) hb)
           have n2_:=Am (Kd.R_below (by (with_reducible repeat (first|apply Kd.R_alloc|apply Kd.R_drewN|apply Kd.R_drew));exact HO_415000.out) hb)
           have n3_:=Am (Kd.R_below (by (with_reducible repeat (first|apply Kd.R_alloc|apply Kd.R_drewN|apply Kd.R_drew));exact HO_415001.out) hb)
           have n4_:=Am (blk_below (g:=gb413) (o:=.cells #[.slice Ao9 t400.length co9,.slice Ao11 t403.length co11,.int .i64 t406,.int .i64 t407,.int .i64 t408] 26 (0,0)) (by (with_reducible repeat (first|refine kN ?_ _|refine kD ?_|refine kA ?_ _));exact BK413.out) hb)
           have n5_:=Am (blk_below (g:=gb414) (o:=.cells #[.slice Ao9 t400.length co9,.slice Ao43 x415001_5.length co43,.int .i64 x415002_5,.int .i64 x415003_5,.int .i64 t408] 26 (0,0)) (by (with_reducible repeat (first|refine kN ?_ _|refine kD ?_|refine kA ?_ _));exact BK414.out) hb)
           have n6_:=Am (below_step (by repeat (first|(with_reducible first|exact HB.out|apply bA|apply bN|apply bD|refine bS ?_ GE413.out|refine bS ?_ GE414.out)|exact HB.out)) hb)
           clear HO_414000
           clear HO_414001
           clear HO_415000
           clear HO_415001
           clear BK413
           clear BK414
           clear HB
           have HO_414000:=n0_
           have HO_414001:=n1_
           have HO_415000:=n2_
           have HO_415001:=n3_
           have BK413:=n4_
           have BK414:=n5_
           have HB:=n6_
           clear n0_ n1_ n2_ n3_ n4_ n5_ n6_
           (try clear hb)
           (try clear hb2)
           (try clear hk)
           (try clear hi)
           refine hK.out _ _ ⟨(kC BK414.out 0).trans rfl,(kC BK414.out 1).trans rfl,(kC BK414.out 2).trans rfl,(kC BK414.out 3).trans rfl,(kC BK414.out 4).trans rfl⟩ (fun hHeld => ?_)
           clear hK K
           refine norm_ (a':=?_) ?_ ?_
           rotate_left
           ·show Act.put _ (some 110) _ = _
            simp only [Act.put,pS]
            rfl
           refine pure_ (i:=20) (N:=some 111) (v:=?_) (a':=?_) #[true,true,true,true,true,true,true,true,true,true,true,true,true,true,true,true,true,true,true,true,true,false] rfl rfl (any_of HT_.out (by kernel_rfl)) (fun _ _ _ h => h) (Or.inl ⟨by rfl,?_⟩) ?_ ?_
           rotate_left
           ·intro w'
            go_simp
            with_reducible rfl
           rotate_left
           ·simp only [Act.put,pS]
            rfl
           refine pure_ (i:=21) (N:=some 112) (v:=?_) (a':=?_) #[true,true,true,true,true,true,true,true,true,true,true,true,true,true,true,true,true,true,true,true,true,true] rfl rfl (any_of HT_.out (by kernel_rfl)) (fun _ _ _ h => h) (Or.inl ⟨by rfl,?_⟩) ?_ ?_
           rotate_left
           ·intro w'
            go_simp
            with_reducible rfl
           rotate_left
           ·simp only [Act.put,pS]
            rfl
           refine done_ (done_of HT_.out (by kernel_rfl)) ?_
           try go_wp2
           go_roundg k2
           case measure => have:=HJ5.out;have:=HK2.out;omega
           case rel => exact ⟨(wrap64 (x7_2 + 1)),(by first|rfl|(simp;done)|(simp [*];done)),H',⟨by have:=HJ5.out;have:=HK2.out;omega⟩,⟨by (with_reducible repeat (first|apply Kd.R_alloc|apply Kd.R_drewN|apply Kd.R_drew));exact HO_414000.out⟩,⟨by (with_reducible repeat (first|apply Kd.R_alloc|apply Kd.R_drewN|apply Kd.R_drew));exact HO_414001.out⟩,⟨by (with_reducible repeat (first|apply Kd.R_alloc|apply Kd.R_drewN|apply Kd.R_drew));exact HO_415000.out⟩,⟨by (with_reducible repeat (first|apply Kd.R_alloc|apply Kd.R_drewN|apply Kd.R_drew));exact HO_415001.out⟩,⟨by (with_reducible repeat (first|refine kN ?_ _|refine kD ?_|refine kA ?_ _));exact BK413.out⟩,⟨by (with_reducible repeat (first|refine kN ?_ _|refine kD ?_|refine kA ?_ _));exact BK414.out⟩,⟨by repeat (first|(with_reducible first|exact HB.out|apply bA|apply bN|apply bD|refine bS ?_ GE413.out|refine bS ?_ GE414.out)|exact HB.out)⟩⟩
        ·rw [if_neg c45] at H
         have c45b0 : decide (x7_2 < 20) = false:=decide_eq_false c45
         clear c45
         replace H:=Option.bind_eq_some_iff.mp H
         obtain ⟨t431,A670,H⟩:=H
         replace H : ((impl_MostNow.f k2 t400 t403 t406 t407 t408 t409).bind fun t432 => (some (decide (t431 ≤ t432)))) = some r:=H
         have A67:=Am A670
         clear A670
         replace H:=Option.bind_eq_some_iff.mp H
         obtain ⟨t432,A680,H⟩:=H
         replace H : (some (decide (t431 ≤ t432))) = some r:=H
         have A68:=Am A680
         clear A680
         obtain rfl:=Option.some.inj H
         try go_wp2
         have n0_:=Am (Kd.R_drew HO_414000.out)
         have n1_:=Am (Kd.R_drew HO_414001.out)
         have n2_:=Am (Kd.R_drew HO_415000.out)
         have n3_:=Am (Kd.R_drew HO_415001.out)
         have n4_:=Am (kD BK413.out)
         have n5_:=Am (kD BK414.out)
         have n6_:=Am (bD HB.out)
         clear HO_414000
         clear HO_414001
         clear HO_415000
         clear HO_415001
         clear BK413
         clear BK414
         clear HB
         have HO_414000:=n0_
         have HO_414001:=n1_
         have HO_415000:=n2_
         have HO_415001:=n3_
         have BK413:=n4_
         have BK414:=n5_
         have HB:=n6_
         clear n0_ n1_ n2_ n3_ n4_ n5_ n6_
         refine start_ (n:=8) (S:=fun w' => w'.cell? ⟨gb414,0,none⟩ = some (.slice Ao9 t400.length co9)∧w'.cell? ⟨gb414,1,none⟩ = some (.slice Ao43 x415001_5.length co43)∧w'.cell? ⟨gb414,2,none⟩ = some (.int .i64 x415002_5)∧w'.cell? ⟨gb414,3,none⟩ = some (.int .i64 x415003_5)∧w'.cell? ⟨gb414,4,none⟩ = some (.int .i64 t408)∧w'.cell? ⟨gb413,0,none⟩ = some (.slice Ao9 t400.length co9)∧w'.cell? ⟨gb413,1,none⟩ = some (.slice Ao11 t403.length co11)∧w'.cell? ⟨gb413,2,none⟩ = some (.int .i64 t406)∧w'.cell? ⟨gb413,3,none⟩ = some (.int .i64 t407)∧w'.cell? ⟨gb413,4,none⟩ = some (.int .i64 t408)) (ds:=[]) #[false,false,false,false,false,false,false,false] (by kernel_rfl) rfl rfl ⟨(kC BK414.out 0).trans rfl,(kC BK414.out 1).trans rfl,(kC BK414.out 2).trans rfl,(kC BK414.out 3).trans rfl,(kC BK414.out 4).trans rfl,(kC BK413.out 0).trans rfl,(kC BK413.out 1).trans rfl,(kC BK413.out 2).trans rfl,(kC BK413.out 3).trans rfl,(kC BK413.out 4).trans rfl⟩ (fun hHeld => ?_);refine with_tabW laws_FnTight.tab20 laws_FnTight.bits20 (fun HT_ HW_ => ?_)
         generalize wr.drew = w69 at HO_414000 HO_414001 HO_415000 HO_415001 BK413 BK414 HB hHeld ⊢
         refine pure_ (i:=1) (N:=some 114) (v:=?_) (a':=?_) #[false,true,false,false,false,false,false,false] rfl rfl (any_of HT_.out (by kernel_rfl)) (fun _ _ _ h => h) (Or.inl ⟨by rfl,?_⟩) ?_ ?_
         rotate_left
         ·intro w'
          go_simp
          with_reducible rfl
         rotate_left
         ·simp only [Act.put,pS]
          rfl
         refine pure_ (i:=4) (N:=some 117) (v:=?_) (a':=?_) #[false,true,false,false,true,false,false,false] rfl rfl (any_of HT_.out (by kernel_rfl)) (fun _ _ _ h => h) (Or.inl ⟨by rfl,?_⟩) ?_ ?_
         rotate_left
         ·intro w'
          go_simp
          with_reducible rfl
         rotate_left
         ·simp only [Act.put,pS]
          rfl
         refine take_ (i:=0) (N:=some 113) (v:=?_) (a':=?_) #[true,true,false,false,true,false,false,false] rfl rfl (take_ofW HT_.out HW_.out (by kernel_rfl)) (fun _ _ _ h => h) (Or.inl ⟨by rfl,?_⟩) hHeld ?_ ?_
         rotate_left
         ·rintro w' ⟨s0,s1,s2,s3,s4,s5,s6,s7,s8,s9⟩
          go_simp
          with_reducible rfl
         rotate_left
         ·simp only [Act.put,pS]
          rfl
         refine take_ (i:=3) (N:=some 116) (v:=?_) (a':=?_) #[true,true,false,true,true,false,false,false] rfl rfl (take_ofW HT_.out HW_.out (by kernel_rfl)) (fun _ _ _ h => h) (Or.inl ⟨by rfl,?_⟩) hHeld ?_ ?_
         rotate_left
         ·rintro w' ⟨s0,s1,s2,s3,s4,s5,s6,s7,s8,s9⟩
          go_simp
          with_reducible rfl
         rotate_left
         ·simp only [Act.put,pS]
          rfl
         refine one_ (i:=2) (N:=some 115) #[true,true,true,true,true,false,false,false] rfl rfl (one_of HT_.out (by kernel_rfl)) (by decide) (fun K hK => ?_)
         refine goes_ Try.func23 (by kernel_rfl) rfl #[.agg #[.slice Ao9 t400.length co9,.slice Ao43 x415001_5.length co43,.int .i64 x415002_5,.int .i64 x415003_5,.int .i64 t408],.int .i64 t409] (by rfl) rfl rfl (by (try simp only [List.map_toArray,List.map_cons,List.map_nil]);first|done|rfl|(simp only [List.length_drop,List.length_take];rfl)) ?_
         with_reducible refine (impl_MostNow.calls k2 _ _ t400 _ _ x415001_5 x415002_5 x415003_5 t408 t409 t431 _ ?side1 ?side2 ?side3 ?side4 A67.out).mono ?_
         (case side1 => repeat (first|exact (Kd.R_reads' HO_415000.out).2.2|(with_reducible refine Kd.C_alloc ?_ _)|(with_reducible refine Kd.C_drewN ?_ _)|(with_reducible refine Kd.C_drew ?_)))
         (case side2 => exact (Kd.R_reads' HO_415000.out).2.1)
         (case side3 => repeat (first|exact (Kd.R_reads' HO_415001.out).2.2|(with_reducible refine Kd.C_alloc ?_ _)|(with_reducible refine Kd.C_drewN ?_ _)|(with_reducible refine Kd.C_drew ?_)))
         (case side4 => exact (Kd.R_reads' HO_415001.out).2.1)
         rintro e w70 ⟨rfl,hb⟩
         refine ⟨_,rfl,?_⟩
         have n0_:=Am (Kd.R_below (by (with_reducible repeat (first|apply Kd.R_alloc|apply Kd.R_drewN|apply Kd.R_drew));exact HO_414000.out) hb)
         have n1_:=Am (Kd.R_below (by (with_reducible repeat (first|apply Kd.R_alloc|apply Kd.R_drewN|apply Kd.R_drew));exact HO_414001.out) hb)
         have n2_:=Am (Kd.R_below (by (with_reducible repeat (first|apply Kd.R_alloc|apply Kd.R_drewN|apply Kd.R_drew));exact HO_415000.out) hb)
         have n3_:=Am (Kd.R_below (by (with_reducible repeat (first|apply Kd.R_alloc|apply Kd.R_drewN|apply Kd.R_drew));exact HO_415001.out) hb)
         have n4_:=Am (blk_below (g:=gb413) (o:=.cells #[.slice Ao9 t400.length co9,.slice Ao11 t403.length co11,.int .i64 t406,.int .i64 t407,.int .i64 t408] 26 (0,0)) (by (with_reducible repeat (first|refine kN ?_ _|refine kD ?_|refine kA ?_ _));exact BK413.out) hb)
         have n5_:=Am (blk_below (g:=gb414) (o:=.cells #[.slice Ao9 t400.length co9,.slice Ao43 x415001_5.length co43,.int .i64 x415002_5,.int .i64 x415003_5,.int .i64 t408] 26 (0,0)) (by (with_reducible repeat (first|refine kN ?_ _|refine kD ?_|refine kA ?_ _));exact BK414.out) hb)
         have n6_:=Am (below_step (by repeat (first|(with_reducible first|exact HB.out|apply bA|apply bN|apply bD|refine bS ?_ GE413.out|refine bS ?_ GE414.out)|exact HB.out)) hb)
         clear HO_414000
         clear HO_414001
         clear HO_415000
         clear HO_415001
         clear BK413
         clear BK414
         clear HB
         have HO_414000:=n0_
         have HO_414001:=n1_
         have HO_415000:=n2_
         have HO_415001:=n3_
         have BK413:=n4_
         have BK414:=n5_
         have HB:=n6_
         clear n0_ n1_ n2_ n3_ n4_ n5_ n6_
         (try clear hb)
         (try clear hb2)
         (try clear hk)
         (try clear hi)
         refine hK.out _ _ ⟨(kC BK414.out 0).trans rfl,(kC BK414.out 1).trans rfl,(kC BK414.out 2).trans rfl,(kC BK414.out 3).trans rfl,(kC BK414.out 4).trans rfl,(kC BK413.out 0).trans rfl,(kC BK413.out 1).trans rfl,(kC BK413.out 2).trans rfl,(kC BK413.out 3).trans rfl,(kC BK413.out 4).trans rfl⟩ (fun hHeld => ?_)
         clear hK K
         refine norm_ (a':=?_) ?_ ?_
         rotate_left
         ·show Act.put _ (some 115) _ = _
          simp only [Act.put,pS]
          rfl
         refine one_ (i:=5) (N:=some 118) #[true,true,true,true,true,true,false,false] rfl rfl (one_of HT_.out (by kernel_rfl)) (by decide) (fun K hK => ?_)
         refine goes_ Try.func23 (by kernel_rfl) rfl #[.agg #[.slice Ao9 t400.length co9,.slice Ao11 t403.length co11,.int .i64 t406,.int .i64 t407,.int .i64 t408],.int .i64 t409] (by rfl) rfl rfl (by (try simp only [List.map_toArray,List.map_cons,List.map_nil]);first|done|rfl|(simp only [List.length_drop,List.length_take];rfl)) ?_
         with_reducible refine (impl_MostNow.calls k2 _ _ t400 _ _ t403 t406 t407 t408 t409 t432 _ ?side1 ?side2 ?side3 ?side4 A68.out).mono ?_
         (case side1 => repeat (first|exact (Kd.R_reads' HO_414000.out).2.2|(with_reducible refine Kd.C_alloc ?_ _)|(with_reducible refine Kd.C_drewN ?_ _)|(with_reducible refine Kd.C_drew ?_)))
         (case side2 => exact (Kd.R_reads' HO_414000.out).2.1)
         (case side3 => repeat (first|exact (Kd.R_reads' HO_414001.out).2.2|(with_reducible refine Kd.C_alloc ?_ _)|(with_reducible refine Kd.C_drewN ?_ _)|(with_reducible refine Kd.C_drew ?_)))
         (case side4 => exact (Kd.R_reads' HO_414001.out).2.1)
         rintro e w71 ⟨rfl,hb⟩
         refine ⟨_,rfl,?_⟩
         have n0_:=Am (Kd.R_below (by (with_reducible repeat (first|apply Kd.R_alloc|apply Kd.R_drewN|apply Kd.R_drew));exact HO_414000.out) hb)
         have n1_:=Am (Kd.R_below (by (with_reducible repeat (first|apply Kd.R_alloc|apply Kd.R_drewN|apply Kd.R_drew));exact HO_414001.out) hb)
         have n2_:=Am (Kd.R_below (by (with_reducible repeat (first|apply Kd.R_alloc|apply Kd.R_drewN|apply Kd.R_drew));exact HO_415000.out) hb)
         have n3_:=Am (Kd.R_below (by (with_reducible repeat (first|apply Kd.R_alloc|apply Kd.R_drewN|apply Kd.R_drew));exact HO_415001.out) hb)
         have n4_:=Am (blk_below (g:=gb413) (o:=.cells #[.slice Ao9 t400.length co9,.slice Ao11 t403.length co11,.int .i64 t406,.int .i64 t407,.int .i64 t408] 26 (0,0)) (by (with_reducible repeat (first|refine kN ?_ _|refine kD ?_|refine kA ?_ _));exact BK413.out) hb)
         have n5_:=Am (blk_below (g:=gb414) (o:=.cells #[.slice Ao9 t400.length co9,.slice Ao43 x415001_5.length co43,.int .i64 x415002_5,.int .i64 x415003_5,.int .i64 t408] 26 (0,0)) (by (with_reducible repeat (first|refine kN ?_ _|refine kD ?_|refine kA ?_ _));exact BK414.out) hb)
         have n6_:=Am (below_step (by repeat (first|(with_reducible first|exact HB.out|apply bA|apply bN|apply bD|refine bS ?_ GE413.out|refine bS ?_ GE414.out)|exact HB.out)) hb)
         clear HO_414000
         clear HO_414001
         clear HO_415000
         clear HO_415001
         clear BK413
         clear BK414
         clear HB
         have HO_414000:=n0_
         have HO_414001:=n1_
         have HO_415000:=n2_
         have HO_415001:=n3_
         have BK413:=n4_
         have BK414:=n5_
         have HB:=n6_
         clear n0_ n1_ n2_ n3_ n4_ n5_ n6_
         (try clear hb)
         (try clear hb2)
         (try clear hk)
         (try clear hi)
         refine hK.out _ _ ⟨(kC BK414.out 0).trans rfl,(kC BK414.out 1).trans rfl,(kC BK414.out 2).trans rfl,(kC BK414.out 3).trans rfl,(kC BK414.out 4).trans rfl,(kC BK413.out 0).trans rfl,(kC BK413.out 1).trans rfl,(kC BK413.out 2).trans rfl,(kC BK413.out 3).trans rfl,(kC BK413.out 4).trans rfl⟩ (fun hHeld => ?_)
         clear hK K
         refine norm_ (a':=?_) ?_ ?_
         rotate_left
         ·show Act.put _ (some 118) _ = _
          simp only [Act.put,pS]
          rfl
         refine pure_ (i:=6) (N:=some 119) (v:=?_) (a':=?_) #[true,true,true,true,true,true,true,false] rfl rfl (any_of HT_.out (by kernel_rfl)) (fun _ _ _ h => h) (Or.inl ⟨by rfl,?_⟩) ?_ ?_
         rotate_left
         ·intro w'
          go_simp
          with_reducible rfl
         rotate_left
         ·simp only [Act.put,pS]
          rfl
         refine pure_ (i:=7) (N:=some 2) (v:=?_) (a':=?_) #[true,true,true,true,true,true,true,true] rfl rfl (any_of HT_.out (by kernel_rfl)) (fun _ _ _ h => h) (Or.inl ⟨by rfl,?_⟩) ?_ ?_
         rotate_left
         ·intro w'
          go_simp
          with_reducible rfl
         rotate_left
         ·simp only [Act.put,pS]
          rfl
         refine done_ (done_of HT_.out (by kernel_rfl)) ?_
         try go_wp2
         go_ret
         exact ⟨by first|rfl|(simp [errW_none,errW_some] <;> rfl)|(simp [*,errW_none,errW_some] <;> rfl),by repeat (first|(with_reducible first|exact HB.out|apply bA|apply bN|apply bD|refine bS ?_ GE413.out|refine bS ?_ GE414.out)|exact HB.out)⟩
     ·rw [if_neg c40] at H
      have c40b0 : (t429 == 0) = false:=beq_eq_false_iff_ne.mpr c40
      have c40b1 : (t429 != 0) = true:=bne_iff_ne.mpr c40
      replace H:=Option.bind_eq_some_iff.mp H
      obtain ⟨t430,A720,H⟩:=H
      replace H : (some (t430 != 0)) = some r:=H
      have A72:=Am A720
      clear A720
      obtain rfl:=Option.some.inj H
      have hnb73:=NB414_413.out
      have hnc73:=NB413_414.out
      have hcz74_0 : wc.cell? ⟨gb414,0,none⟩ = some (.slice Ao9 t400.length co9):=(kC BK414.out 0).trans rfl
      have hcz74_1 : wc.cell? ⟨gb414,1,none⟩ = some (u415001):=(kC BK414.out 1).trans rfl
      have hcz74_2 : wc.cell? ⟨gb414,2,none⟩ = some (.int .i64 x415002_5):=(kC BK414.out 2).trans rfl
      have hcz74_3 : wc.cell? ⟨gb414,3,none⟩ = some (.int .i64 x415003_5):=(kC BK414.out 3).trans rfl
      have hcz74_4 : wc.cell? ⟨gb414,4,none⟩ = some (.int .i64 t408):=(kC BK414.out 4).trans rfl
      have hfz74_0:=kF BK414.out 0
      have hfz74_1:=kF BK414.out 1
      have hfz74_2:=kF BK414.out 2
      have hfz74_3:=kF BK414.out 3
      have hfz74_4:=kF BK414.out 4
      obtain ⟨Ao75,co75,eo75⟩:=Kd.R_slice HO_415001.out
      subst eo75
      go_wp2_with (first|((with_reducible refine gate_callee (f:=19) rfl ?_);refine goesL_ (some 72) rfl rfl Try.func19 (by kernel_rfl) rfl #[.agg #[.slice Ao9 t400.length co9,.slice Ao75 x415001_5.length co75,.int .i64 x415002_5,.int .i64 x415003_5,.int .i64 t408]] rfl (by (try simp only [List.map_toArray,List.map_cons,List.map_nil]);first|done|rfl|(simp only [List.length_drop,List.length_take];rfl)) ?_;(with_reducible refine (impl_ProfileOk.calls _ _ t400 _ _ x415001_5 x415002_5 x415003_5 t408 t429 _ ?side1 ?side2 ?side3 ?side4 A39.out).mono ?_);(case side1 => repeat (first|exact (Kd.R_reads' HO_415000.out).2.2|(with_reducible refine Kd.C_alloc ?_ _)|(with_reducible refine Kd.C_drewN ?_ _)|(with_reducible refine Kd.C_drew ?_)));(case side2 => exact (Kd.R_reads' HO_415000.out).2.1);(case side3 => repeat (first|exact (Kd.R_reads' HO_415001.out).2.2|(with_reducible refine Kd.C_alloc ?_ _)|(with_reducible refine Kd.C_drewN ?_ _)|(with_reducible refine Kd.C_drew ?_)));(case side4 => exact (Kd.R_reads' HO_415001.out).2.1);rintro e w76 ⟨rfl,hb⟩;refine ⟨_,rfl,?_⟩;have n0_:=Am (Kd.R_below (by (with_reducible repeat (first|apply Kd.R_alloc|apply Kd.R_drewN|apply Kd.R_drew));exact HO_414000.out) hb);have n1_:=Am (Kd.R_below (by (with_reducible repeat (first|apply Kd.R_alloc|apply Kd.R_drewN|apply Kd.R_drew));exact HO_414001.out) hb);have n2_:=Am (Kd.R_below (by (with_reducible repeat (first|apply Kd.R_alloc|apply Kd.R_drewN|apply Kd.R_drew));exact HO_415000.out) hb);have n3_:=Am (Kd.R_below (by (with_reducible repeat (first|apply Kd.R_alloc|apply Kd.R_drewN|apply Kd.R_drew));exact HO_415001.out) hb);have n4_:=Am (blk_below (g:=gb413) (o:=.cells #[.slice Ao9 t400.length co9,.slice Ao11 t403.length co11,.int .i64 t406,.int .i64 t407,.int .i64 t408] 26 (0,0)) (by (with_reducible repeat (first|refine kN ?_ _|refine kD ?_|refine kA ?_ _));exact BK413.out) hb);have n5_:=Am (blk_below (g:=gb414) (o:=.cells #[.slice Ao9 t400.length co9,.slice Ao75 x415001_5.length co75,.int .i64 x415002_5,.int .i64 x415003_5,.int .i64 t408] 26 (0,0)) (by (with_reducible repeat (first|refine kN ?_ _|refine kD ?_|refine kA ?_ _));exact BK414.out) hb);have n6_:=Am (below_step (by repeat (first|(with_reducible first|exact HB.out|apply bA|apply bN|apply bD|refine bS ?_ GE413.out|refine bS ?_ GE414.out)|exact HB.out)) hb);clear HO_414000;clear HO_414001;clear HO_415000;clear HO_415001;clear BK413;clear BK414;clear HB;have HO_414000:=n0_;have HO_414001:=n1_;have HO_415000:=n2_;have HO_415001:=n3_;have BK413:=n4_;have BK414:=n5_;have HB:=n6_;clear n0_ n1_ n2_ n3_ n4_ n5_ n6_;(try clear hb);(try clear hb2);(try clear hk);(try clear hi);have hcz77_0 : w76.cell? ⟨gb414,0,none⟩ = some (.slice Ao9 t400.length co9):=(kC BK414.out 0).trans rfl;have hcz77_1 : w76.cell? ⟨gb414,1,none⟩ = some (.slice Ao75 x415001_5.length co75):=(kC BK414.out 1).trans rfl;have hcz77_2 : w76.cell? ⟨gb414,2,none⟩ = some (.int .i64 x415002_5):=(kC BK414.out 2).trans rfl;have hcz77_3 : w76.cell? ⟨gb414,3,none⟩ = some (.int .i64 x415003_5):=(kC BK414.out 3).trans rfl;have hcz77_4 : w76.cell? ⟨gb414,4,none⟩ = some (.int .i64 t408):=(kC BK414.out 4).trans rfl;have hfz77_0:=kF BK414.out 0;have hfz77_1:=kF BK414.out 1;have hfz77_2:=kF BK414.out 2;have hfz77_3:=kF BK414.out 3;have hfz77_4:=kF BK414.out 4)|((with_reducible refine gate_callee (f:=20) rfl ?_);refine goesL_ (some 75) rfl rfl Try.func20 (by kernel_rfl) rfl #[.agg #[.slice Ao9 t400.length co9,.slice Ao75 x415001_5.length co75,.int .i64 x415002_5,.int .i64 x415003_5,.int .i64 t408]] rfl (by (try simp only [List.map_toArray,List.map_cons,List.map_nil]);first|done|rfl|(simp only [List.length_drop,List.length_take];rfl)) ?_;(with_reducible refine (spec_ProfileOk.calls kj5 _ _ t400 _ _ x415001_5 x415002_5 x415003_5 t408 t430 _ ?side1 ?side2 ?side3 ?side4 A72.out).mono ?_);(case side1 => repeat (first|exact (Kd.R_reads' HO_415000.out).2.2|(with_reducible refine Kd.C_alloc ?_ _)|(with_reducible refine Kd.C_drewN ?_ _)|(with_reducible refine Kd.C_drew ?_)));(case side2 => exact (Kd.R_reads' HO_415000.out).2.1);(case side3 => repeat (first|exact (Kd.R_reads' HO_415001.out).2.2|(with_reducible refine Kd.C_alloc ?_ _)|(with_reducible refine Kd.C_drewN ?_ _)|(with_reducible refine Kd.C_drew ?_)));(case side4 => exact (Kd.R_reads' HO_415001.out).2.1);rintro e w78 ⟨rfl,hb⟩;refine ⟨_,rfl,?_⟩;have n0_:=Am (Kd.R_below (by (with_reducible repeat (first|apply Kd.R_alloc|apply Kd.R_drewN|apply Kd.R_drew));exact HO_414000.out) hb);have n1_:=Am (Kd.R_below (by (with_reducible repeat (first|apply Kd.R_alloc|apply Kd.R_drewN|apply Kd.R_drew));exact HO_414001.out) hb);have n2_:=Am (Kd.R_below (by (with_reducible repeat (first|apply Kd.R_alloc|apply Kd.R_drewN|apply Kd.R_drew));exact HO_415000.out) hb);have n3_:=Am (Kd.R_below (by (with_reducible repeat (first|apply Kd.R_alloc|apply Kd.R_drewN|apply Kd.R_drew));exact HO_415001.out) hb);have n4_:=Am (blk_below (g:=gb413) (o:=.cells #[.slice Ao9 t400.length co9,.slice Ao11 t403.length co11,.int .i64 t406,.int .i64 t407,.int .i64 t408] 26 (0,0)) (by (with_reducible repeat (first|refine kN ?_ _|refine kD ?_|refine kA ?_ _));exact BK413.out) hb);have n5_:=Am (blk_below (g:=gb414) (o:=.cells #[.slice Ao9 t400.length co9,.slice Ao75 x415001_5.length co75,.int .i64 x415002_5,.int .i64 x415003_5,.int .i64 t408] 26 (0,0)) (by (with_reducible repeat (first|refine kN ?_ _|refine kD ?_|refine kA ?_ _));exact BK414.out) hb);have n6_:=Am (below_step (by repeat (first|(with_reducible first|exact HB.out|apply bA|apply bN|apply bD|refine bS ?_ GE413.out|refine bS ?_ GE414.out)|exact HB.out)) hb);clear HO_414000;clear HO_414001;clear HO_415000;clear HO_415001;clear BK413;clear BK414;clear HB;have HO_414000:=n0_;have HO_414001:=n1_;have HO_415000:=n2_;have HO_415001:=n3_;have BK413:=n4_;have BK414:=n5_;have HB:=n6_;clear n0_ n1_ n2_ n3_ n4_ n5_ n6_;(try clear hb);(try clear hb2);(try clear hk);(try clear hi)))
      go_ret
      exact ⟨by first|rfl|(simp [errW_none,errW_some] <;> rfl)|(simp [*,errW_none,errW_some] <;> rfl),by repeat (first|(with_reducible first|exact HB.out|apply bA|apply bN|apply bD|refine bS ?_ GE413.out|refine bS ?_ GE414.out)|exact HB.out)⟩
  ·rw [if_neg c4] at H
   exact absurd H (by simp)

/-- THE ONE PURE STATEMENT of laws_FnTight: yours. -/
def laws_FnTight.Pure : Prop:=∀ (l0 : List Int),l0.length ≤ maxLen → l0.length * 1 ≤ 140737488351232 → (∀ x ∈ l0,(Lit.int .u8 x).wf = true) → ∃ k,laws_FnTight.f k l0 = some true
theorem laws_FnTight.walk (P : laws_FnTight.Pure) (a0 : Option Addr) (len0 cap0 : Nat) (z0 : List Int) (w : World) (w0 : (a0 = none∧len0 = 0∧cap0 = 0∧z0 = []) ∨ ∃ x,a0 = some x∧len0 ≤ cap0∧cap0 ≤ maxLen∧z0.length = cap0∧(∀ i,i < z0.length → w.cell? (x.add i) = some (.int .u8 (z0.getD i 0)))∧∀ n ∈ z0,(Lit.int .u8 n).wf = true) (y0 : len0 * 1 ≤ 140737488351232) :
  Calls Try.prog 5 #[.slice a0 len0 cap0] w fun e w' => e = .returned (.bool true)∧Below w.heap.size w w':=by
 obtain ⟨l0,rfl,hr0,hm0,hw0,hc0⟩:=ReadsInt.ofRowC w0
 obtain ⟨k,h⟩:=P l0 hm0 y0 hw0
 refine (laws_FnTight.calls k _ _ l0 true w (Kd.C_of_reads (d:=(0 : Int)) (h1:=fun _ => rfl) hr0) hc0 ⟨rfl⟩ h).mono ?_
 rintro e w' ⟨rfl,hd⟩
 exact ⟨rfl,hd⟩

end Go.Proofs.Ytanjbdgmnecacaa.PA
