-- Written by a program of this session (wip/print/myprint.py) over the kit's print, with contracts of its own; not a text of print.sh's.
import Derived.Test.YtanjbdgmnecacaaPAx0
import Derived.Test.YtanjbdgmnecacaaPAx6
import Derived.Test.YtanjbdgmnecacaaPAx10
import Derived.Test.YtanjbdgmnecacaaPAx15
import Derived.Test.YtanjbdgmnecacaaPAx16
import Derived.Test.YtanjbdgmnecacaaPAx17
import Derived.Test.YtanjbdgmnecacaaPAx18
namespace Go.Proofs.Ytanjbdgmnecacaa.PA
open Go.RowKit Go.Proofs.YtanjbdgmnecacaaW.PrintWords Go.Proofs.YtanjbdgmnecacaaW.PrintLast Go.Proofs.YtanjbdgmnecacaaW.PrintMore
attribute [local go_sem] max2_int min2_int max_two min_two   -- for this text's walks alone
set_option linter.unusedVariables false
set_option linter.unusedSimpArgs false

/-! ### laws_FnTop: function 3 -/
mutual
def laws_FnTop.j0 : Nat → Int → Bool → List (S39) → List (S45) → Int → Int → Int → Bool → List Int → Int → Int → Option (Bool)
 | 0,_,_,_,_,_,_,_,_,_,_,_ => none
 | k + 1,x4,x75,x358000,x358001,x358002,x358003,x358004,x379000,x379001,x379002,x379003 => if x75 = true then (some false) else (laws_FnTop.l0 k x4 x379001 (x379001.length : Int) 0 x358000 x358001 x358002 x358003 x358004 x379000 x379001 x379002 x379003)
def laws_FnTop.l0 : Nat → Int → List Int → Int → Int → List (S39) → List (S45) → Int → Int → Int → Bool → List Int → Int → Int → Option (Bool)
 | 0,_,_,_,_,_,_,_,_,_,_,_,_,_ => none
 | k + 1,x11,x78,x79,x80,x358000,x358001,x358002,x358003,x358004,x379000,x379001,x379002,x379003 => if x80 < x79 then (if 0 ≤ x80 then (if x80 < (x78.length : Int) then (if (rd x78 x80) < 0 then (some false) else (if (wrap64 (x11 + (rd x78 x80))) > x358003 then (some false) else ((laws_wLimit.f k x358000 x358001 x358002 x358003 x358004 x11 (wrap64 (x11 + (rd x78 x80)))).bind fun t390 => (if (rd x78 x80) > t390 then (if (rd x78 x80) > 0 then (some false) else (laws_FnTop.l0 k (wrap64 (x11 + (rd x78 x80))) x78 x79 (wrap64 (x80 + 1)) x358000 x358001 x358002 x358003 x358004 x379000 x379001 x379002 x379003)) else (laws_FnTop.l0 k (wrap64 (x11 + (rd x78 x80))) x78 x79 (wrap64 (x80 + 1)) x358000 x358001 x358002 x358003 x358004 x379000 x379001 x379002 x379003))))) else (none)) else (none)) else (some (x11 == x379003))
end
def laws_FnTop.f (k : Nat) (l0 : List Int) : Option (Bool):=if (l0.length : Int) > 1048576 then (some true) else ((spec_Profiles.f k l0).bind fun bt344 => ((spec_Profiles.f k l0).bind fun bt358 => ((impl_Watch.f k bt344.1 bt344.2.1 bt344.2.2.1 bt344.2.2.2.1 bt344.2.2.2.2.1 bt344.2.2.2.2.2.1 0 bt344.2.2.2.2.2.2).bind fun bt372 => ((spec_Watch.f k bt358.1 bt358.2.1 bt358.2.2.1 bt358.2.2.2.1 bt358.2.2.2.2.1 bt344.2.2.2.2.2.1 0 bt358.2.2.2.2.2.2).bind fun bt379 => (if (bt372.1 != bt379.1) = true then (laws_FnTop.j0 k bt344.2.2.2.2.2.1 true bt344.1 bt344.2.1 bt344.2.2.1 bt344.2.2.2.1 bt344.2.2.2.2.1 bt372.1 bt372.2.1 bt372.2.2.1 bt372.2.2.2) else (if bt372.2.2.1 = bt379.2.2.1 then (if bt372.2.2.2 = bt379.2.2.2 then ((laws_wInts.f k bt372.2.1 bt379.2.1).bind fun t386 => (if t386 = true then ((laws_wProfile.f k bt344.1 bt344.2.1 bt344.2.2.1 bt344.2.2.2.1 bt344.2.2.2.2.1 bt358.1 bt358.2.1 bt358.2.2.1 bt358.2.2.2.1 bt358.2.2.2.2.1).bind fun t387 => (if t387 = true then ((laws_wInts.f k bt344.2.2.2.2.2.2 bt358.2.2.2.2.2.2).bind fun t388 => (laws_FnTop.j0 k bt344.2.2.2.2.2.1 (!t388) bt344.1 bt344.2.1 bt344.2.2.1 bt344.2.2.2.1 bt344.2.2.2.2.1 bt372.1 bt372.2.1 bt372.2.2.1 bt372.2.2.2)) else (laws_FnTop.j0 k bt344.2.2.2.2.2.1 true bt344.1 bt344.2.1 bt344.2.2.1 bt344.2.2.2.1 bt344.2.2.2.2.1 bt372.1 bt372.2.1 bt372.2.2.1 bt372.2.2.2))) else (laws_FnTop.j0 k bt344.2.2.2.2.2.1 true bt344.1 bt344.2.1 bt344.2.2.1 bt344.2.2.2.1 bt344.2.2.2.2.1 bt372.1 bt372.2.1 bt372.2.2.1 bt372.2.2.2))) else (laws_FnTop.j0 k bt344.2.2.2.2.2.1 true bt344.1 bt344.2.1 bt344.2.2.1 bt344.2.2.2.1 bt344.2.2.2.2.1 bt372.1 bt372.2.1 bt372.2.2.1 bt372.2.2.2)) else (laws_FnTop.j0 k bt344.2.2.2.2.2.1 true bt344.1 bt344.2.1 bt344.2.2.1 bt344.2.2.2.1 bt344.2.2.2.2.1 bt372.1 bt372.2.1 bt372.2.2.1 bt372.2.2.2)))))))
theorem laws_FnTop.mono_l : ∀ k,(∀ y0 y1 y2 y3 y4 y5 y6 y7 y8 y9 y10,LeO (laws_FnTop.j0 k y0 y1 y2 y3 y4 y5 y6 y7 y8 y9 y10) (laws_FnTop.j0 (k + 1) y0 y1 y2 y3 y4 y5 y6 y7 y8 y9 y10))∧(∀ y0 y1 y2 y3 y4 y5 y6 y7 y8 y9 y10 y11 y12,LeO (laws_FnTop.l0 k y0 y1 y2 y3 y4 y5 y6 y7 y8 y9 y10 y11 y12) (laws_FnTop.l0 (k + 1) y0 y1 y2 y3 y4 y5 y6 y7 y8 y9 y10 y11 y12))
 | 0 => ⟨fun _ _ _ _ _ _ _ _ _ _ _ r h => by simp [laws_FnTop.j0] at h,fun _ _ _ _ _ _ _ _ _ _ _ _ _ r h => by simp [laws_FnTop.l0] at h⟩
 | k + 1 => by
  obtain ⟨ih0,ih1⟩:=laws_FnTop.mono_l k
  refine ⟨?_,?_⟩
  ·intro y0 y1 y2 y3 y4 y5 y6 y7 y8 y9 y10
   unfold laws_FnTop.j0
   repeat' first
   | (with_reducible exact ih0 _ _ _ _ _ _ _ _ _ _ _)
   | (with_reducible exact ih1 _ _ _ _ _ _ _ _ _ _ _ _ _)
   | (with_reducible exact impl_Watch.mono _ _ _ _ _ _ _ _ _)
   | (with_reducible exact laws_wInts.mono _ _ _)
   | (with_reducible exact laws_wLimit.mono _ _ _ _ _ _ _ _)
   | (with_reducible exact laws_wProfile.mono _ _ _ _ _ _ _ _ _ _ _)
   | (with_reducible exact spec_Profiles.mono _ _)
   | (with_reducible exact spec_Watch.mono _ _ _ _ _ _ _ _ _)
   | (with_reducible exact LeO.refl _)
   | (with_reducible exact LeO.none _)
   | (with_reducible refine LeO.ite ?_ ?_)
   | (with_reducible refine LeO.bind ?_ (fun _ => ?_))
   | exact ih0 _ _ _ _ _ _ _ _ _ _ _
   | exact ih1 _ _ _ _ _ _ _ _ _ _ _ _ _
   | exact impl_Watch.mono _ _ _ _ _ _ _ _ _
   | exact laws_wInts.mono _ _ _
   | exact laws_wLimit.mono _ _ _ _ _ _ _ _
   | exact laws_wProfile.mono _ _ _ _ _ _ _ _ _ _ _
   | exact spec_Profiles.mono _ _
   | exact spec_Watch.mono _ _ _ _ _ _ _ _ _
   | exact LeO.none _
   | refine LeO.ite ?_ ?_
   | refine LeO.bind ?_ (fun _ => ?_)
  ·intro y0 y1 y2 y3 y4 y5 y6 y7 y8 y9 y10 y11 y12
   unfold laws_FnTop.l0
   repeat' first
   | (with_reducible exact ih0 _ _ _ _ _ _ _ _ _ _ _)
   | (with_reducible exact ih1 _ _ _ _ _ _ _ _ _ _ _ _ _)
   | (with_reducible exact impl_Watch.mono _ _ _ _ _ _ _ _ _)
   | (with_reducible exact laws_wInts.mono _ _ _)
   | (with_reducible exact laws_wLimit.mono _ _ _ _ _ _ _ _)
   | (with_reducible exact laws_wProfile.mono _ _ _ _ _ _ _ _ _ _ _)
   | (with_reducible exact spec_Profiles.mono _ _)
   | (with_reducible exact spec_Watch.mono _ _ _ _ _ _ _ _ _)
   | (with_reducible exact LeO.refl _)
   | (with_reducible exact LeO.none _)
   | (with_reducible refine LeO.ite ?_ ?_)
   | (with_reducible refine LeO.bind ?_ (fun _ => ?_))
   | exact ih0 _ _ _ _ _ _ _ _ _ _ _
   | exact ih1 _ _ _ _ _ _ _ _ _ _ _ _ _
   | exact impl_Watch.mono _ _ _ _ _ _ _ _ _
   | exact laws_wInts.mono _ _ _
   | exact laws_wLimit.mono _ _ _ _ _ _ _ _
   | exact laws_wProfile.mono _ _ _ _ _ _ _ _ _ _ _
   | exact spec_Profiles.mono _ _
   | exact spec_Watch.mono _ _ _ _ _ _ _ _ _
   | exact LeO.none _
   | refine LeO.ite ?_ ?_
   | refine LeO.bind ?_ (fun _ => ?_)
theorem laws_FnTop.mono : ∀ a0 k,LeO (laws_FnTop.f k a0) (laws_FnTop.f (k + 1) a0):=by
 intro a0 k
 obtain ⟨ih0,ih1⟩:=laws_FnTop.mono_l k
 unfold laws_FnTop.f
 repeat' first
   | (with_reducible exact ih0 _ _ _ _ _ _ _ _ _ _ _)
   | (with_reducible exact ih1 _ _ _ _ _ _ _ _ _ _ _ _ _)
   | (with_reducible exact impl_Watch.mono _ _ _ _ _ _ _ _ _)
   | (with_reducible exact laws_wInts.mono _ _ _)
   | (with_reducible exact laws_wLimit.mono _ _ _ _ _ _ _ _)
   | (with_reducible exact laws_wProfile.mono _ _ _ _ _ _ _ _ _ _ _)
   | (with_reducible exact spec_Profiles.mono _ _)
   | (with_reducible exact spec_Watch.mono _ _ _ _ _ _ _ _ _)
   | (with_reducible exact LeO.refl _)
   | (with_reducible exact LeO.none _)
   | (with_reducible refine LeO.ite ?_ ?_)
   | (with_reducible refine LeO.bind ?_ (fun _ => ?_))
   | exact ih0 _ _ _ _ _ _ _ _ _ _ _
   | exact ih1 _ _ _ _ _ _ _ _ _ _ _ _ _
   | exact impl_Watch.mono _ _ _ _ _ _ _ _ _
   | exact laws_wInts.mono _ _ _
   | exact laws_wLimit.mono _ _ _ _ _ _ _ _
   | exact laws_wProfile.mono _ _ _ _ _ _ _ _ _ _ _
   | exact spec_Profiles.mono _ _
   | exact spec_Watch.mono _ _ _ _ _ _ _ _ _
   | exact LeO.none _
   | refine LeO.ite ?_ ?_
   | refine LeO.bind ?_ (fun _ => ?_)
theorem laws_FnTop.j0_no : ∀ (k : Nat) (x4 : Int) (x358000 : List (S39)) (x358001 : List (S45)) (x358002 : Int) (x358003 : Int) (x358004 : Int) (x379000 : Bool) (x379001 : List Int) (x379002 : Int) (x379003 : Int),¬ laws_FnTop.j0 k x4 true x358000 x358001 x358002 x358003 x358004 x379000 x379001 x379002 x379003 = some true:=by
 intro k
 cases k <;> simp [laws_FnTop.j0]
set_option maxHeartbeats 8000000 in
set_option maxRecDepth 100000 in
theorem laws_FnTop.calls (k : Nat) (A0 : Option Addr) (c0 : Nat) (l0 : List Int) (r : Bool) (w : World) (hr0 : Kd.C (Kd.int .u8) w A0 l0.length l0) (hc0 : l0.length ≤ c0) (hrt : As (r = true)) (h : laws_FnTop.f k l0 = some r) :
  Calls Try.prog 3 #[.slice A0 l0.length c0] w fun e w' => e = .returned (.bool r)∧Below w.heap.size w w':=by
 have hu26:=Try.underlying26
 have hu31:=Try.underlying31
 have HR0:=Am hr0
 have HC0:=Am hc0
 clear hr0 hc0
 have HB:=Am (Below.refl w.heap.size w)
 have H : (if (l0.length : Int) > 1048576 then (some true) else ((spec_Profiles.f k l0).bind fun bt344 => ((spec_Profiles.f k l0).bind fun bt358 => ((impl_Watch.f k bt344.1 bt344.2.1 bt344.2.2.1 bt344.2.2.2.1 bt344.2.2.2.2.1 bt344.2.2.2.2.2.1 0 bt344.2.2.2.2.2.2).bind fun bt372 => ((spec_Watch.f k bt358.1 bt358.2.1 bt358.2.2.1 bt358.2.2.2.1 bt358.2.2.2.2.1 bt344.2.2.2.2.2.1 0 bt358.2.2.2.2.2.2).bind fun bt379 => (if (bt372.1 != bt379.1) = true then (laws_FnTop.j0 k bt344.2.2.2.2.2.1 true bt344.1 bt344.2.1 bt344.2.2.1 bt344.2.2.2.1 bt344.2.2.2.2.1 bt372.1 bt372.2.1 bt372.2.2.1 bt372.2.2.2) else (if bt372.2.2.1 = bt379.2.2.1 then (if bt372.2.2.2 = bt379.2.2.2 then ((laws_wInts.f k bt372.2.1 bt379.2.1).bind fun t386 => (if t386 = true then ((laws_wProfile.f k bt344.1 bt344.2.1 bt344.2.2.1 bt344.2.2.2.1 bt344.2.2.2.2.1 bt358.1 bt358.2.1 bt358.2.2.1 bt358.2.2.2.1 bt358.2.2.2.2.1).bind fun t387 => (if t387 = true then ((laws_wInts.f k bt344.2.2.2.2.2.2 bt358.2.2.2.2.2.2).bind fun t388 => (laws_FnTop.j0 k bt344.2.2.2.2.2.1 (!t388) bt344.1 bt344.2.1 bt344.2.2.1 bt344.2.2.2.1 bt344.2.2.2.2.1 bt372.1 bt372.2.1 bt372.2.2.1 bt372.2.2.2)) else (laws_FnTop.j0 k bt344.2.2.2.2.2.1 true bt344.1 bt344.2.1 bt344.2.2.1 bt344.2.2.2.1 bt344.2.2.2.2.1 bt372.1 bt372.2.1 bt372.2.2.1 bt372.2.2.2))) else (laws_FnTop.j0 k bt344.2.2.2.2.2.1 true bt344.1 bt344.2.1 bt344.2.2.1 bt344.2.2.2.1 bt344.2.2.2.2.1 bt372.1 bt372.2.1 bt372.2.2.1 bt372.2.2.2))) else (laws_FnTop.j0 k bt344.2.2.2.2.2.1 true bt344.1 bt344.2.1 bt344.2.2.1 bt344.2.2.2.1 bt344.2.2.2.2.1 bt372.1 bt372.2.1 bt372.2.2.1 bt372.2.2.2)) else (laws_FnTop.j0 k bt344.2.2.2.2.2.1 true bt344.1 bt344.2.1 bt344.2.2.1 bt344.2.2.2.1 bt344.2.2.2.2.1 bt372.1 bt372.2.1 bt372.2.2.1 bt372.2.2.2)))))))) = some r:=h
 clear h
 by_cases c2 : (l0.length : Int) > 1048576
 ·rw [if_pos c2] at H
  have c2b0 : decide (1048576 < (l0.length : Int)) = true:=decide_eq_true c2
  have c2b1 : decide (1048576 < l0.length) = true:=decide_eq_true (by omega)
  clear c2
  obtain rfl:=Option.some.inj H
  go_enter Try.func3,Try.ntmps3
  go_wp2
  go_ret
  exact ⟨by first|rfl|(simp [errW_none,errW_some] <;> rfl)|(simp [*,errW_none,errW_some] <;> rfl),by repeat (first|(with_reducible first|exact HB.out|apply bA|apply bN|apply bD)|exact HB.out)⟩
 ·rw [if_neg c2] at H
  have c2b0 : decide (1048576 < (l0.length : Int)) = false:=decide_eq_false c2
  have c2b1 : decide (1048576 < l0.length) = false:=decide_eq_false (by omega)
  clear c2
  replace H:=Option.bind_eq_some_iff.mp H
  obtain ⟨⟨t344,t347,t350,t351,t352,t353,t354⟩,A30,H⟩:=H
  replace H : ((spec_Profiles.f k l0).bind fun bt358 => ((impl_Watch.f k t344 t347 t350 t351 t352 t353 0 t354).bind fun bt372 => ((spec_Watch.f k bt358.1 bt358.2.1 bt358.2.2.1 bt358.2.2.2.1 bt358.2.2.2.2.1 t353 0 bt358.2.2.2.2.2.2).bind fun bt379 => (if (bt372.1 != bt379.1) = true then (laws_FnTop.j0 k t353 true t344 t347 t350 t351 t352 bt372.1 bt372.2.1 bt372.2.2.1 bt372.2.2.2) else (if bt372.2.2.1 = bt379.2.2.1 then (if bt372.2.2.2 = bt379.2.2.2 then ((laws_wInts.f k bt372.2.1 bt379.2.1).bind fun t386 => (if t386 = true then ((laws_wProfile.f k t344 t347 t350 t351 t352 bt358.1 bt358.2.1 bt358.2.2.1 bt358.2.2.2.1 bt358.2.2.2.2.1).bind fun t387 => (if t387 = true then ((laws_wInts.f k t354 bt358.2.2.2.2.2.2).bind fun t388 => (laws_FnTop.j0 k t353 (!t388) t344 t347 t350 t351 t352 bt372.1 bt372.2.1 bt372.2.2.1 bt372.2.2.2)) else (laws_FnTop.j0 k t353 true t344 t347 t350 t351 t352 bt372.1 bt372.2.1 bt372.2.2.1 bt372.2.2.2))) else (laws_FnTop.j0 k t353 true t344 t347 t350 t351 t352 bt372.1 bt372.2.1 bt372.2.2.1 bt372.2.2.2))) else (laws_FnTop.j0 k t353 true t344 t347 t350 t351 t352 bt372.1 bt372.2.1 bt372.2.2.1 bt372.2.2.2)) else (laws_FnTop.j0 k t353 true t344 t347 t350 t351 t352 bt372.1 bt372.2.1 bt372.2.2.1 bt372.2.2.2)))))) = some r:=H
  have A3:=Am A30
  clear A30
  replace H:=Option.bind_eq_some_iff.mp H
  obtain ⟨⟨t358,t361,t364,t365,t366,t367,t368⟩,A40,H⟩:=H
  replace H : ((impl_Watch.f k t344 t347 t350 t351 t352 t353 0 t354).bind fun bt372 => ((spec_Watch.f k t358 t361 t364 t365 t366 t353 0 t368).bind fun bt379 => (if (bt372.1 != bt379.1) = true then (laws_FnTop.j0 k t353 true t344 t347 t350 t351 t352 bt372.1 bt372.2.1 bt372.2.2.1 bt372.2.2.2) else (if bt372.2.2.1 = bt379.2.2.1 then (if bt372.2.2.2 = bt379.2.2.2 then ((laws_wInts.f k bt372.2.1 bt379.2.1).bind fun t386 => (if t386 = true then ((laws_wProfile.f k t344 t347 t350 t351 t352 t358 t361 t364 t365 t366).bind fun t387 => (if t387 = true then ((laws_wInts.f k t354 t368).bind fun t388 => (laws_FnTop.j0 k t353 (!t388) t344 t347 t350 t351 t352 bt372.1 bt372.2.1 bt372.2.2.1 bt372.2.2.2)) else (laws_FnTop.j0 k t353 true t344 t347 t350 t351 t352 bt372.1 bt372.2.1 bt372.2.2.1 bt372.2.2.2))) else (laws_FnTop.j0 k t353 true t344 t347 t350 t351 t352 bt372.1 bt372.2.1 bt372.2.2.1 bt372.2.2.2))) else (laws_FnTop.j0 k t353 true t344 t347 t350 t351 t352 bt372.1 bt372.2.1 bt372.2.2.1 bt372.2.2.2)) else (laws_FnTop.j0 k t353 true t344 t347 t350 t351 t352 bt372.1 bt372.2.1 bt372.2.2.1 bt372.2.2.2))))) = some r:=H
  have A4:=Am A40
  clear A40
  replace H:=Option.bind_eq_some_iff.mp H
  obtain ⟨⟨t372,t373,t376,t377⟩,A50,H⟩:=H
  replace H : ((spec_Watch.f k t358 t361 t364 t365 t366 t353 0 t368).bind fun bt379 => (if (t372 != bt379.1) = true then (laws_FnTop.j0 k t353 true t344 t347 t350 t351 t352 t372 t373 t376 t377) else (if t376 = bt379.2.2.1 then (if t377 = bt379.2.2.2 then ((laws_wInts.f k t373 bt379.2.1).bind fun t386 => (if t386 = true then ((laws_wProfile.f k t344 t347 t350 t351 t352 t358 t361 t364 t365 t366).bind fun t387 => (if t387 = true then ((laws_wInts.f k t354 t368).bind fun t388 => (laws_FnTop.j0 k t353 (!t388) t344 t347 t350 t351 t352 t372 t373 t376 t377)) else (laws_FnTop.j0 k t353 true t344 t347 t350 t351 t352 t372 t373 t376 t377))) else (laws_FnTop.j0 k t353 true t344 t347 t350 t351 t352 t372 t373 t376 t377))) else (laws_FnTop.j0 k t353 true t344 t347 t350 t351 t352 t372 t373 t376 t377)) else (laws_FnTop.j0 k t353 true t344 t347 t350 t351 t352 t372 t373 t376 t377)))) = some r:=H
  have A5:=Am A50
  clear A50
  replace H:=Option.bind_eq_some_iff.mp H
  obtain ⟨⟨t379,t380,t383,t384⟩,A60,H⟩:=H
  replace H : (if (t372 != t379) = true then (laws_FnTop.j0 k t353 true t344 t347 t350 t351 t352 t372 t373 t376 t377) else (if t376 = t383 then (if t377 = t384 then ((laws_wInts.f k t373 t380).bind fun t386 => (if t386 = true then ((laws_wProfile.f k t344 t347 t350 t351 t352 t358 t361 t364 t365 t366).bind fun t387 => (if t387 = true then ((laws_wInts.f k t354 t368).bind fun t388 => (laws_FnTop.j0 k t353 (!t388) t344 t347 t350 t351 t352 t372 t373 t376 t377)) else (laws_FnTop.j0 k t353 true t344 t347 t350 t351 t352 t372 t373 t376 t377))) else (laws_FnTop.j0 k t353 true t344 t347 t350 t351 t352 t372 t373 t376 t377))) else (laws_FnTop.j0 k t353 true t344 t347 t350 t351 t352 t372 t373 t376 t377)) else (laws_FnTop.j0 k t353 true t344 t347 t350 t351 t352 t372 t373 t376 t377))) = some r:=H
  have A6:=Am A60
  clear A60
  have HC7:=Am H
  clear H
  go_enter Try.func3,Try.ntmps3
  go_upto_region 7 with (first|((with_reducible refine gate_callee (f:=9) rfl ?_);refine goesL_ (some 19) rfl rfl Try.func9 (by kernel_rfl) rfl #[.slice A0 l0.length c0] rfl (by (try simp only [List.map_toArray,List.map_cons,List.map_nil]);first|done|rfl|(simp only [List.length_drop,List.length_take];rfl)) ?_;(with_reducible refine (spec_Profiles.calls k _ _ l0 t344 t347 t350 t351 t352 t353 t354 _ ?side1 ?side2 A3.out).mono ?_);(case side1 => repeat (first|exact HR0.out|(with_reducible refine Kd.C_alloc ?_ _)|(with_reducible refine Kd.C_drewN ?_ _)|(with_reducible refine Kd.C_drew ?_)));(case side2 => exact HC0.out);rintro e w8 ⟨v345,v348,v355,rfl,ho0,ho1,ho2,hb⟩;refine ⟨_,rfl,?_⟩;have n0_:=Am (Kd.R_lower ho0 (below_size (by repeat (first|(with_reducible first|exact HB.out|apply bA|apply bN|apply bD)|exact HB.out))));have n1_:=Am (Kd.R_lower ho1 (below_size (by repeat (first|(with_reducible first|exact HB.out|apply bA|apply bN|apply bD)|exact HB.out))));have n2_:=Am (Kd.R_lower ho2 (below_size (by repeat (first|(with_reducible first|exact HB.out|apply bA|apply bN|apply bD)|exact HB.out))));have n3_:=Am (below_step (by repeat (first|(with_reducible first|exact HB.out|apply bA|apply bN|apply bD)|exact HB.out)) hb);clear HB;have HO346:=n0_;have HO349:=n1_;have HO356:=n2_;have HB:=n3_;clear n0_ n1_ n2_ n3_;(try clear hb);(try clear hb2);(try clear hk);(try clear hi);(try clear ho0);(try clear ho1);(try clear ho2))|((with_reducible refine gate_dst (N:=3) rfl ?_);refine box_event ?hg (N:=3) ?hd (cs:=#[.slice none 0 0,.slice none 0 0,.int .i64 0,.int .i64 0,.int .i64 0]) (t:=26) ?hr ?_;(case hd => rfl);(case hg => rfl);(case hr => first|(go_simp;done)|(go_simp;rfl));intro gb357 hg w9 hbox hb;have n0_:=Am (Kd.R_below (by (with_reducible repeat (first|apply Kd.R_alloc|apply Kd.R_drewN|apply Kd.R_drew));exact HO346.out) hb);have n1_:=Am (Kd.R_below (by (with_reducible repeat (first|apply Kd.R_alloc|apply Kd.R_drewN|apply Kd.R_drew));exact HO349.out) hb);have n2_:=Am (Kd.R_below (by (with_reducible repeat (first|apply Kd.R_alloc|apply Kd.R_drewN|apply Kd.R_drew));exact HO356.out) hb);have n3_:=Am (below_step (by repeat (first|(with_reducible first|exact HB.out|apply bA|apply bN|apply bD)|exact HB.out)) hb);have n4_:=Am (hbox);have n5_:=Am ((by rw [hg];exact (below_size (by repeat (first|(with_reducible first|exact HB.out|apply bA|apply bN|apply bD)|exact HB.out))) : w.heap.size ≤ gb357));have n6_:=Am ((by rw [hg];exact (below_size (by repeat (first|(with_reducible first|exact HB.out|apply bA|apply bN|apply bD)|exact HB.out))) : w.heap.size ≤ gb357));clear HO346;clear HO349;clear HO356;clear HB;have HO346:=n0_;have HO349:=n1_;have HO356:=n2_;have HB:=n3_;have BK357:=n4_;have GW357:=n5_;have GE357:=n6_;clear n0_ n1_ n2_ n3_ n4_ n5_ n6_;clear hb hbox hg;obtain ⟨Ao10,co10,eo10⟩:=Kd.R_slice HO346.out;subst eo10;have hcz11_0 : w9.cell? ⟨gb357,0,none⟩ = some (.slice none 0 0):=(kC BK357.out 0).trans rfl;have hcz11_1 : w9.cell? ⟨gb357,1,none⟩ = some (.slice none 0 0):=(kC BK357.out 1).trans rfl;have hcz11_2 : w9.cell? ⟨gb357,2,none⟩ = some (.int .i64 0):=(kC BK357.out 2).trans rfl;have hcz11_3 : w9.cell? ⟨gb357,3,none⟩ = some (.int .i64 0):=(kC BK357.out 3).trans rfl;have hcz11_4 : w9.cell? ⟨gb357,4,none⟩ = some (.int .i64 0):=(kC BK357.out 4).trans rfl;have hfz11_0:=kF BK357.out 0;have hfz11_1:=kF BK357.out 1;have hfz11_2:=kF BK357.out 2;have hfz11_3:=kF BK357.out 3;have hfz11_4:=kF BK357.out 4;obtain ⟨Ao12,co12,eo12⟩:=Kd.R_slice HO349.out;subst eo12)|((with_reducible refine gate_callee (f:=9) rfl ?_);refine goesL_ (some 25) rfl rfl Try.func9 (by kernel_rfl) rfl #[.slice A0 l0.length c0] rfl (by (try simp only [List.map_toArray,List.map_cons,List.map_nil]);first|done|rfl|(simp only [List.length_drop,List.length_take];rfl)) ?_;(with_reducible refine (spec_Profiles.calls k _ _ l0 t358 t361 t364 t365 t366 t367 t368 _ ?side1 ?side2 A4.out).mono ?_);(case side1 => exact Kd.C_below HR0.out (by repeat (first|(with_reducible first|exact HB.out|apply bA|apply bN|apply bD|refine bS ?_ GE357.out)|exact HB.out)));(case side2 => exact HC0.out);rintro e w13 ⟨v359,v362,v369,rfl,ho0,ho1,ho2,hb⟩;refine ⟨_,rfl,?_⟩;have n0_:=Am (Kd.R_elder' (by (with_reducible repeat (first|apply Kd.R_alloc|apply Kd.R_drewN|apply Kd.R_drew));exact (Kd.R_mono (Kd.R_far (p:=⟨gb357,4,none⟩) (Kd.R_far (p:=⟨gb357,3,none⟩) (Kd.R_far (p:=⟨gb357,2,none⟩) (Kd.R_far (p:=⟨gb357,1,none⟩) (Kd.R_far (p:=⟨gb357,0,none⟩) (Kd.R_types HO346.out BK357.out (by decide)) (fun _ hk => hk.2) (.slice Ao10 t344.length co10)) (fun _ hk => hk.2) (.slice Ao12 t347.length co12)) (fun _ hk => hk.2) (.int .i64 t350)) (fun _ hk => hk.2) (.int .i64 t351)) (fun _ hk => hk.2) (.int .i64 t352)) (fun _ h_ => h_.1))) (Kd.R_base ho0) hb);have n1_:=Am (Kd.R_elder' (by (with_reducible repeat (first|apply Kd.R_alloc|apply Kd.R_drewN|apply Kd.R_drew));exact (Kd.R_mono (Kd.R_far (p:=⟨gb357,4,none⟩) (Kd.R_far (p:=⟨gb357,3,none⟩) (Kd.R_far (p:=⟨gb357,2,none⟩) (Kd.R_far (p:=⟨gb357,1,none⟩) (Kd.R_far (p:=⟨gb357,0,none⟩) (Kd.R_types HO349.out BK357.out (by decide)) (fun _ hk => hk.2) (.slice Ao10 t344.length co10)) (fun _ hk => hk.2) (.slice Ao12 t347.length co12)) (fun _ hk => hk.2) (.int .i64 t350)) (fun _ hk => hk.2) (.int .i64 t351)) (fun _ hk => hk.2) (.int .i64 t352)) (fun _ h_ => h_.1))) (Kd.R_base ho1) hb);have n2_:=Am (Kd.R_elder' (by (with_reducible repeat (first|apply Kd.R_alloc|apply Kd.R_drewN|apply Kd.R_drew));exact (Kd.R_mono (Kd.R_far (p:=⟨gb357,4,none⟩) (Kd.R_far (p:=⟨gb357,3,none⟩) (Kd.R_far (p:=⟨gb357,2,none⟩) (Kd.R_far (p:=⟨gb357,1,none⟩) (Kd.R_far (p:=⟨gb357,0,none⟩) (Kd.R_types HO356.out BK357.out (by decide)) (fun _ hk => hk.2) (.slice Ao10 t344.length co10)) (fun _ hk => hk.2) (.slice Ao12 t347.length co12)) (fun _ hk => hk.2) (.int .i64 t350)) (fun _ hk => hk.2) (.int .i64 t351)) (fun _ hk => hk.2) (.int .i64 t352)) (fun _ h_ => h_.1))) (Kd.R_base ho2) hb);have n3_:=Am (Kd.R_lower (Kd.R_new' ho0 (Kd.R_lt (by (with_reducible repeat (first|apply Kd.R_alloc|apply Kd.R_drewN|apply Kd.R_drew));exact (Kd.R_mono (Kd.R_far (p:=⟨gb357,4,none⟩) (Kd.R_far (p:=⟨gb357,3,none⟩) (Kd.R_far (p:=⟨gb357,2,none⟩) (Kd.R_far (p:=⟨gb357,1,none⟩) (Kd.R_far (p:=⟨gb357,0,none⟩) (Kd.R_types HO346.out BK357.out (by decide)) (fun _ hk => hk.2) (.slice Ao10 t344.length co10)) (fun _ hk => hk.2) (.slice Ao12 t347.length co12)) (fun _ hk => hk.2) (.int .i64 t350)) (fun _ hk => hk.2) (.int .i64 t351)) (fun _ hk => hk.2) (.int .i64 t352)) (fun _ h_ => h_.1))))) (below_size (by repeat (first|(with_reducible first|exact HB.out|apply bA|apply bN|apply bD|refine bS ?_ GE357.out)|exact HB.out))));have n4_:=Am (Kd.R_lower (Kd.R_new' ho1 (Kd.R_lt (by (with_reducible repeat (first|apply Kd.R_alloc|apply Kd.R_drewN|apply Kd.R_drew));exact (Kd.R_mono (Kd.R_far (p:=⟨gb357,4,none⟩) (Kd.R_far (p:=⟨gb357,3,none⟩) (Kd.R_far (p:=⟨gb357,2,none⟩) (Kd.R_far (p:=⟨gb357,1,none⟩) (Kd.R_far (p:=⟨gb357,0,none⟩) (Kd.R_types HO349.out BK357.out (by decide)) (fun _ hk => hk.2) (.slice Ao10 t344.length co10)) (fun _ hk => hk.2) (.slice Ao12 t347.length co12)) (fun _ hk => hk.2) (.int .i64 t350)) (fun _ hk => hk.2) (.int .i64 t351)) (fun _ hk => hk.2) (.int .i64 t352)) (fun _ h_ => h_.1))))) (below_size (by repeat (first|(with_reducible first|exact HB.out|apply bA|apply bN|apply bD|refine bS ?_ GE357.out)|exact HB.out))));have n5_:=Am (Kd.R_lower (Kd.R_new' ho2 (Kd.R_lt (by (with_reducible repeat (first|apply Kd.R_alloc|apply Kd.R_drewN|apply Kd.R_drew));exact (Kd.R_mono (Kd.R_far (p:=⟨gb357,4,none⟩) (Kd.R_far (p:=⟨gb357,3,none⟩) (Kd.R_far (p:=⟨gb357,2,none⟩) (Kd.R_far (p:=⟨gb357,1,none⟩) (Kd.R_far (p:=⟨gb357,0,none⟩) (Kd.R_types HO356.out BK357.out (by decide)) (fun _ hk => hk.2) (.slice Ao10 t344.length co10)) (fun _ hk => hk.2) (.slice Ao12 t347.length co12)) (fun _ hk => hk.2) (.int .i64 t350)) (fun _ hk => hk.2) (.int .i64 t351)) (fun _ hk => hk.2) (.int .i64 t352)) (fun _ h_ => h_.1))))) (below_size (by repeat (first|(with_reducible first|exact HB.out|apply bA|apply bN|apply bD|refine bS ?_ GE357.out)|exact HB.out))));have n6_:=Am (blk_below (g:=gb357) (o:=.cells #[.slice Ao10 t344.length co10,.slice Ao12 t347.length co12,.int .i64 t350,.int .i64 t351,.int .i64 t352] 26 (0,0)) (by (with_reducible repeat (first|refine kN ?_ _|refine kD ?_|refine kA ?_ _));refine blk_put (cs:=#[.slice Ao10 t344.length co10,.slice Ao12 t347.length co12,.int .i64 t350,.int .i64 t351,.int .i64 0]) ?_ 4 _ rfl;(with_reducible repeat (first|refine kN ?_ _|refine kD ?_|refine kA ?_ _));refine blk_put (cs:=#[.slice Ao10 t344.length co10,.slice Ao12 t347.length co12,.int .i64 t350,.int .i64 0,.int .i64 0]) ?_ 3 _ rfl;(with_reducible repeat (first|refine kN ?_ _|refine kD ?_|refine kA ?_ _));refine blk_put (cs:=#[.slice Ao10 t344.length co10,.slice Ao12 t347.length co12,.int .i64 0,.int .i64 0,.int .i64 0]) ?_ 2 _ rfl;(with_reducible repeat (first|refine kN ?_ _|refine kD ?_|refine kA ?_ _));refine blk_put (cs:=#[.slice Ao10 t344.length co10,.slice none 0 0,.int .i64 0,.int .i64 0,.int .i64 0]) ?_ 1 _ rfl;(with_reducible repeat (first|refine kN ?_ _|refine kD ?_|refine kA ?_ _));refine blk_put (cs:=#[.slice none 0 0,.slice none 0 0,.int .i64 0,.int .i64 0,.int .i64 0]) ?_ 0 _ rfl;(with_reducible repeat (first|refine kN ?_ _|refine kD ?_|refine kA ?_ _));exact BK357.out) hb);have n7_:=Am (below_step (by repeat (first|(with_reducible first|exact HB.out|apply bA|apply bN|apply bD|refine bS ?_ GE357.out)|exact HB.out)) hb);clear HO346;clear HO349;clear HO356;clear BK357;clear HB;have HO346:=n0_;have HO349:=n1_;have HO356:=n2_;have HO360:=n3_;have HO363:=n4_;have HO370:=n5_;have BK357:=n6_;have HB:=n7_;clear n0_ n1_ n2_ n3_ n4_ n5_ n6_ n7_;(try clear hb);(try clear hb2);(try clear hk);(try clear hi);(try clear ho0);(try clear ho1);(try clear ho2))|((with_reducible refine gate_dst (N:=6) rfl ?_);refine box_event ?hg (N:=6) ?hd (cs:=#[.slice none 0 0,.slice none 0 0,.int .i64 0,.int .i64 0,.int .i64 0]) (t:=26) ?hr ?_;(case hd => rfl);(case hg => rfl);(case hr => first|(go_simp;done)|(go_simp;rfl));intro gb371 hg w14 hbox hb;have n0_:=Am (Kd.R_below (by (with_reducible repeat (first|apply Kd.R_alloc|apply Kd.R_drewN|apply Kd.R_drew));exact HO346.out) hb);have n1_:=Am (Kd.R_below (by (with_reducible repeat (first|apply Kd.R_alloc|apply Kd.R_drewN|apply Kd.R_drew));exact HO349.out) hb);have n2_:=Am (Kd.R_below (by (with_reducible repeat (first|apply Kd.R_alloc|apply Kd.R_drewN|apply Kd.R_drew));exact HO356.out) hb);have n3_:=Am (Kd.R_below (by (with_reducible repeat (first|apply Kd.R_alloc|apply Kd.R_drewN|apply Kd.R_drew));exact HO360.out) hb);have n4_:=Am (Kd.R_below (by (with_reducible repeat (first|apply Kd.R_alloc|apply Kd.R_drewN|apply Kd.R_drew));exact HO363.out) hb);have n5_:=Am (Kd.R_below (by (with_reducible repeat (first|apply Kd.R_alloc|apply Kd.R_drewN|apply Kd.R_drew));exact HO370.out) hb);have n6_:=Am (blk_below (g:=gb357) (o:=.cells #[.slice Ao10 t344.length co10,.slice Ao12 t347.length co12,.int .i64 t350,.int .i64 t351,.int .i64 t352] 26 (0,0)) (by (with_reducible repeat (first|refine kN ?_ _|refine kD ?_|refine kA ?_ _));exact BK357.out) hb);have n7_:=Am (below_step (by repeat (first|(with_reducible first|exact HB.out|apply bA|apply bN|apply bD|refine bS ?_ GE357.out)|exact HB.out)) hb);have n8_:=Am (hbox);have n9_:=Am ((by rw [hg];exact (below_size (by repeat (first|(with_reducible first|exact HB.out|apply bA|apply bN|apply bD|refine bS ?_ GE357.out)|exact HB.out))) : w.heap.size ≤ gb371));have n10_:=Am ((by rw [hg];exact (below_size (by repeat (first|(with_reducible first|exact HB.out|apply bA|apply bN|apply bD|refine bS ?_ GE357.out)|exact HB.out))) : w.heap.size ≤ gb371));have n11_:=Am ((by rw [hg];exact Nat.ne_of_lt (blk_lt (g:=gb357) (o:=.cells #[.slice Ao10 t344.length co10,.slice Ao12 t347.length co12,.int .i64 t350,.int .i64 t351,.int .i64 t352] 26 (0,0)) (by (with_reducible repeat (first|refine kN ?_ _|refine kD ?_|refine kA ?_ _));exact BK357.out)) : gb357 ≠ gb371));have n12_:=Am ((by rw [hg];exact Nat.ne_of_gt (blk_lt (g:=gb357) (o:=.cells #[.slice Ao10 t344.length co10,.slice Ao12 t347.length co12,.int .i64 t350,.int .i64 t351,.int .i64 t352] 26 (0,0)) (by (with_reducible repeat (first|refine kN ?_ _|refine kD ?_|refine kA ?_ _));exact BK357.out)) : gb371 ≠ gb357));clear HO346;clear HO349;clear HO356;clear HO360;clear HO363;clear HO370;clear BK357;clear HB;have HO346:=n0_;have HO349:=n1_;have HO356:=n2_;have HO360:=n3_;have HO363:=n4_;have HO370:=n5_;have BK357:=n6_;have HB:=n7_;have BK371:=n8_;have GW371:=n9_;have GE371:=n10_;have NB357_371:=n11_;have NB371_357:=n12_;clear n0_ n1_ n2_ n3_ n4_ n5_ n6_ n7_ n8_ n9_ n10_ n11_ n12_;clear hb hbox hg;obtain ⟨Ao15,co15,eo15⟩:=Kd.R_slice HO360.out;subst eo15;have hnb16:=NB371_357.out;have hnc16:=NB357_371.out;have hcz17_0 : w14.cell? ⟨gb371,0,none⟩ = some (.slice none 0 0):=(kC BK371.out 0).trans rfl;have hcz17_1 : w14.cell? ⟨gb371,1,none⟩ = some (.slice none 0 0):=(kC BK371.out 1).trans rfl;have hcz17_2 : w14.cell? ⟨gb371,2,none⟩ = some (.int .i64 0):=(kC BK371.out 2).trans rfl;have hcz17_3 : w14.cell? ⟨gb371,3,none⟩ = some (.int .i64 0):=(kC BK371.out 3).trans rfl;have hcz17_4 : w14.cell? ⟨gb371,4,none⟩ = some (.int .i64 0):=(kC BK371.out 4).trans rfl;have hfz17_0:=kF BK371.out 0;have hfz17_1:=kF BK371.out 1;have hfz17_2:=kF BK371.out 2;have hfz17_3:=kF BK371.out 3;have hfz17_4:=kF BK371.out 4;obtain ⟨Ao18,co18,eo18⟩:=Kd.R_slice HO363.out;subst eo18;have hcz19_0 : w14.cell? ⟨gb357,0,none⟩ = some (.slice Ao10 t344.length co10):=(kC BK357.out 0).trans rfl;have hcz19_1 : w14.cell? ⟨gb357,1,none⟩ = some (.slice Ao12 t347.length co12):=(kC BK357.out 1).trans rfl;have hcz19_2 : w14.cell? ⟨gb357,2,none⟩ = some (.int .i64 t350):=(kC BK357.out 2).trans rfl;have hcz19_3 : w14.cell? ⟨gb357,3,none⟩ = some (.int .i64 t351):=(kC BK357.out 3).trans rfl;have hcz19_4 : w14.cell? ⟨gb357,4,none⟩ = some (.int .i64 t352):=(kC BK357.out 4).trans rfl;have hfz19_0:=kF BK357.out 0;have hfz19_1:=kF BK357.out 1;have hfz19_2:=kF BK357.out 2;have hfz19_3:=kF BK357.out 3;have hfz19_4:=kF BK357.out 4;obtain ⟨Ao20,co20,eo20⟩:=Kd.R_slice HO356.out;subst eo20)|((with_reducible refine gate_callee (f:=10) rfl ?_);refine goesL_ (some 32) rfl rfl Try.func10 (by kernel_rfl) rfl #[.agg #[.slice Ao10 t344.length co10,.slice Ao12 t347.length co12,.int .i64 t350,.int .i64 t351,.int .i64 t352],.int .i64 t353,.int .i64 0,.slice Ao20 t354.length co20] rfl (by (try simp only [List.map_toArray,List.map_cons,List.map_nil]);first|done|rfl|(simp only [List.length_drop,List.length_take];rfl)) ?_;(with_reducible refine (impl_Watch.calls k _ _ t344 _ _ t347 t350 t351 t352 t353 0 _ _ t354 t372 t373 t376 t377 _ ?side1 ?side2 ?side3 ?side4 ?side5 ?side6 A5.out).mono ?_);(case side1 => refine (Kd.R_reads' (e:=39) (base:=w.heap.size) (ok:=fun k_ => (True∧some k_ ≠ (.slice Ao15 t358.length co15 : Value).ownBlock)) (n:=t344.length) (c:=co10) ?_).2.2;exact (by (with_reducible repeat (first|apply Kd.R_alloc|apply Kd.R_drewN|apply Kd.R_drew));exact (Kd.R_mono (Kd.R_far (p:=⟨gb371,4,none⟩) (Kd.R_far (p:=⟨gb371,3,none⟩) (Kd.R_far (p:=⟨gb371,2,none⟩) (Kd.R_far (p:=⟨gb371,1,none⟩) (Kd.R_far (p:=⟨gb371,0,none⟩) (Kd.R_types HO346.out BK371.out (by decide)) (fun _ hk => hk.2) (.slice Ao15 t358.length co15)) (fun _ hk => hk.2) (.slice Ao18 t361.length co18)) (fun _ hk => hk.2) (.int .i64 t364)) (fun _ hk => hk.2) (.int .i64 t365)) (fun _ hk => hk.2) (.int .i64 t366)) (fun _ h_ => h_.1))));(case side2 => exact (Kd.R_reads' HO346.out).2.1);(case side3 => refine (Kd.R_reads' (e:=45) (base:=w.heap.size) (ok:=fun k_ => (True∧some k_ ≠ (.slice Ao18 t361.length co18 : Value).ownBlock)) (n:=t347.length) (c:=co12) ?_).2.2;exact (by (with_reducible repeat (first|apply Kd.R_alloc|apply Kd.R_drewN|apply Kd.R_drew));exact (Kd.R_mono (Kd.R_far (p:=⟨gb371,4,none⟩) (Kd.R_far (p:=⟨gb371,3,none⟩) (Kd.R_far (p:=⟨gb371,2,none⟩) (Kd.R_far (p:=⟨gb371,1,none⟩) (Kd.R_far (p:=⟨gb371,0,none⟩) (Kd.R_types HO349.out BK371.out (by decide)) (fun _ hk => hk.2) (.slice Ao15 t358.length co15)) (fun _ hk => hk.2) (.slice Ao18 t361.length co18)) (fun _ hk => hk.2) (.int .i64 t364)) (fun _ hk => hk.2) (.int .i64 t365)) (fun _ hk => hk.2) (.int .i64 t366)) (fun _ h_ => h_.1))));(case side4 => exact (Kd.R_reads' HO349.out).2.1);(case side5 => refine (Kd.R_reads' (e:=3) (base:=w.heap.size) (ok:=fun k_ => (True∧some k_ ≠ (v369 : Value).ownBlock)) (n:=t354.length) (c:=co20) ?_).2.2;exact (by (with_reducible repeat (first|apply Kd.R_alloc|apply Kd.R_drewN|apply Kd.R_drew));exact (Kd.R_mono (Kd.R_far (p:=⟨gb371,4,none⟩) (Kd.R_far (p:=⟨gb371,3,none⟩) (Kd.R_far (p:=⟨gb371,2,none⟩) (Kd.R_far (p:=⟨gb371,1,none⟩) (Kd.R_far (p:=⟨gb371,0,none⟩) (Kd.R_types HO356.out BK371.out (by decide)) (fun _ hk => hk.2) (.slice Ao15 t358.length co15)) (fun _ hk => hk.2) (.slice Ao18 t361.length co18)) (fun _ hk => hk.2) (.int .i64 t364)) (fun _ hk => hk.2) (.int .i64 t365)) (fun _ hk => hk.2) (.int .i64 t366)) (fun _ h_ => h_.1))));(case side6 => exact (Kd.R_reads' HO356.out).2.1);rintro e w21 ⟨v374,rfl,ho0,hb⟩;refine ⟨_,rfl,?_⟩;have n0_:=Am (Kd.R_below (by (with_reducible repeat (first|apply Kd.R_alloc|apply Kd.R_drewN|apply Kd.R_drew));exact (Kd.R_mono (Kd.R_far (p:=⟨gb371,4,none⟩) (Kd.R_far (p:=⟨gb371,3,none⟩) (Kd.R_far (p:=⟨gb371,2,none⟩) (Kd.R_far (p:=⟨gb371,1,none⟩) (Kd.R_far (p:=⟨gb371,0,none⟩) (Kd.R_types HO346.out BK371.out (by decide)) (fun _ hk => hk.2) (.slice Ao15 t358.length co15)) (fun _ hk => hk.2) (.slice Ao18 t361.length co18)) (fun _ hk => hk.2) (.int .i64 t364)) (fun _ hk => hk.2) (.int .i64 t365)) (fun _ hk => hk.2) (.int .i64 t366)) (fun _ h_ => h_.1))) hb);have n1_:=Am (Kd.R_below (by (with_reducible repeat (first|apply Kd.R_alloc|apply Kd.R_drewN|apply Kd.R_drew));exact (Kd.R_mono (Kd.R_far (p:=⟨gb371,4,none⟩) (Kd.R_far (p:=⟨gb371,3,none⟩) (Kd.R_far (p:=⟨gb371,2,none⟩) (Kd.R_far (p:=⟨gb371,1,none⟩) (Kd.R_far (p:=⟨gb371,0,none⟩) (Kd.R_types HO349.out BK371.out (by decide)) (fun _ hk => hk.2) (.slice Ao15 t358.length co15)) (fun _ hk => hk.2) (.slice Ao18 t361.length co18)) (fun _ hk => hk.2) (.int .i64 t364)) (fun _ hk => hk.2) (.int .i64 t365)) (fun _ hk => hk.2) (.int .i64 t366)) (fun _ h_ => h_.1))) hb);have n2_:=Am (Kd.R_elder' (by (with_reducible repeat (first|apply Kd.R_alloc|apply Kd.R_drewN|apply Kd.R_drew));exact (Kd.R_mono (Kd.R_far (p:=⟨gb371,4,none⟩) (Kd.R_far (p:=⟨gb371,3,none⟩) (Kd.R_far (p:=⟨gb371,2,none⟩) (Kd.R_far (p:=⟨gb371,1,none⟩) (Kd.R_far (p:=⟨gb371,0,none⟩) (Kd.R_types HO356.out BK371.out (by decide)) (fun _ hk => hk.2) (.slice Ao15 t358.length co15)) (fun _ hk => hk.2) (.slice Ao18 t361.length co18)) (fun _ hk => hk.2) (.int .i64 t364)) (fun _ hk => hk.2) (.int .i64 t365)) (fun _ hk => hk.2) (.int .i64 t366)) (fun _ h_ => h_.1))) (Kd.R_base ho0) hb);have n3_:=Am (Kd.R_below (by (with_reducible repeat (first|apply Kd.R_alloc|apply Kd.R_drewN|apply Kd.R_drew));exact (Kd.R_mono (Kd.R_far (p:=⟨gb371,4,none⟩) (Kd.R_far (p:=⟨gb371,3,none⟩) (Kd.R_far (p:=⟨gb371,2,none⟩) (Kd.R_far (p:=⟨gb371,1,none⟩) (Kd.R_far (p:=⟨gb371,0,none⟩) (Kd.R_types HO360.out BK371.out (by decide)) (fun _ hk => hk.2) (.slice Ao15 t358.length co15)) (fun _ hk => hk.2) (.slice Ao18 t361.length co18)) (fun _ hk => hk.2) (.int .i64 t364)) (fun _ hk => hk.2) (.int .i64 t365)) (fun _ hk => hk.2) (.int .i64 t366)) (fun _ h_ => h_.1))) hb);have n4_:=Am (Kd.R_below (by (with_reducible repeat (first|apply Kd.R_alloc|apply Kd.R_drewN|apply Kd.R_drew));exact (Kd.R_mono (Kd.R_far (p:=⟨gb371,4,none⟩) (Kd.R_far (p:=⟨gb371,3,none⟩) (Kd.R_far (p:=⟨gb371,2,none⟩) (Kd.R_far (p:=⟨gb371,1,none⟩) (Kd.R_far (p:=⟨gb371,0,none⟩) (Kd.R_types HO363.out BK371.out (by decide)) (fun _ hk => hk.2) (.slice Ao15 t358.length co15)) (fun _ hk => hk.2) (.slice Ao18 t361.length co18)) (fun _ hk => hk.2) (.int .i64 t364)) (fun _ hk => hk.2) (.int .i64 t365)) (fun _ hk => hk.2) (.int .i64 t366)) (fun _ h_ => h_.1))) hb);have n5_:=Am (Kd.R_elder' (by (with_reducible repeat (first|apply Kd.R_alloc|apply Kd.R_drewN|apply Kd.R_drew));exact (Kd.R_mono (Kd.R_far (p:=⟨gb371,4,none⟩) (Kd.R_far (p:=⟨gb371,3,none⟩) (Kd.R_far (p:=⟨gb371,2,none⟩) (Kd.R_far (p:=⟨gb371,1,none⟩) (Kd.R_far (p:=⟨gb371,0,none⟩) (Kd.R_types HO370.out BK371.out (by decide)) (fun _ hk => hk.2) (.slice Ao15 t358.length co15)) (fun _ hk => hk.2) (.slice Ao18 t361.length co18)) (fun _ hk => hk.2) (.int .i64 t364)) (fun _ hk => hk.2) (.int .i64 t365)) (fun _ hk => hk.2) (.int .i64 t366)) (fun _ h_ => h_.1))) (Kd.R_base ho0) hb);have n6_:=Am (Kd.R_lower (Kd.R_new' (Kd.R_new' ho0 (Kd.R_lt (by (with_reducible repeat (first|apply Kd.R_alloc|apply Kd.R_drewN|apply Kd.R_drew));exact (Kd.R_mono (Kd.R_far (p:=⟨gb371,4,none⟩) (Kd.R_far (p:=⟨gb371,3,none⟩) (Kd.R_far (p:=⟨gb371,2,none⟩) (Kd.R_far (p:=⟨gb371,1,none⟩) (Kd.R_far (p:=⟨gb371,0,none⟩) (Kd.R_types HO356.out BK371.out (by decide)) (fun _ hk => hk.2) (.slice Ao15 t358.length co15)) (fun _ hk => hk.2) (.slice Ao18 t361.length co18)) (fun _ hk => hk.2) (.int .i64 t364)) (fun _ hk => hk.2) (.int .i64 t365)) (fun _ hk => hk.2) (.int .i64 t366)) (fun _ h_ => h_.1))))) (Kd.R_lt (by (with_reducible repeat (first|apply Kd.R_alloc|apply Kd.R_drewN|apply Kd.R_drew));exact (Kd.R_mono (Kd.R_far (p:=⟨gb371,4,none⟩) (Kd.R_far (p:=⟨gb371,3,none⟩) (Kd.R_far (p:=⟨gb371,2,none⟩) (Kd.R_far (p:=⟨gb371,1,none⟩) (Kd.R_far (p:=⟨gb371,0,none⟩) (Kd.R_types HO370.out BK371.out (by decide)) (fun _ hk => hk.2) (.slice Ao15 t358.length co15)) (fun _ hk => hk.2) (.slice Ao18 t361.length co18)) (fun _ hk => hk.2) (.int .i64 t364)) (fun _ hk => hk.2) (.int .i64 t365)) (fun _ hk => hk.2) (.int .i64 t366)) (fun _ h_ => h_.1))))) (below_size (by repeat (first|(with_reducible first|exact HB.out|apply bA|apply bN|apply bD|refine bS ?_ GE357.out|refine bS ?_ GE371.out)|exact HB.out))));have n7_:=Am (blk_below (g:=gb357) (o:=.cells #[.slice Ao10 t344.length co10,.slice Ao12 t347.length co12,.int .i64 t350,.int .i64 t351,.int .i64 t352] 26 (0,0)) (by (with_reducible repeat (first|refine kN ?_ _|refine kD ?_|refine kA ?_ _));refine blk_far ?_ NB357_371.out _;(with_reducible repeat (first|refine kN ?_ _|refine kD ?_|refine kA ?_ _));refine blk_far ?_ NB357_371.out _;(with_reducible repeat (first|refine kN ?_ _|refine kD ?_|refine kA ?_ _));refine blk_far ?_ NB357_371.out _;(with_reducible repeat (first|refine kN ?_ _|refine kD ?_|refine kA ?_ _));refine blk_far ?_ NB357_371.out _;(with_reducible repeat (first|refine kN ?_ _|refine kD ?_|refine kA ?_ _));refine blk_far ?_ NB357_371.out _;(with_reducible repeat (first|refine kN ?_ _|refine kD ?_|refine kA ?_ _));exact BK357.out) hb);have n8_:=Am (blk_below (g:=gb371) (o:=.cells #[.slice Ao15 t358.length co15,.slice Ao18 t361.length co18,.int .i64 t364,.int .i64 t365,.int .i64 t366] 26 (0,0)) (by (with_reducible repeat (first|refine kN ?_ _|refine kD ?_|refine kA ?_ _));refine blk_put (cs:=#[.slice Ao15 t358.length co15,.slice Ao18 t361.length co18,.int .i64 t364,.int .i64 t365,.int .i64 0]) ?_ 4 _ rfl;(with_reducible repeat (first|refine kN ?_ _|refine kD ?_|refine kA ?_ _));refine blk_put (cs:=#[.slice Ao15 t358.length co15,.slice Ao18 t361.length co18,.int .i64 t364,.int .i64 0,.int .i64 0]) ?_ 3 _ rfl;(with_reducible repeat (first|refine kN ?_ _|refine kD ?_|refine kA ?_ _));refine blk_put (cs:=#[.slice Ao15 t358.length co15,.slice Ao18 t361.length co18,.int .i64 0,.int .i64 0,.int .i64 0]) ?_ 2 _ rfl;(with_reducible repeat (first|refine kN ?_ _|refine kD ?_|refine kA ?_ _));refine blk_put (cs:=#[.slice Ao15 t358.length co15,.slice none 0 0,.int .i64 0,.int .i64 0,.int .i64 0]) ?_ 1 _ rfl;(with_reducible repeat (first|refine kN ?_ _|refine kD ?_|refine kA ?_ _));refine blk_put (cs:=#[.slice none 0 0,.slice none 0 0,.int .i64 0,.int .i64 0,.int .i64 0]) ?_ 0 _ rfl;(with_reducible repeat (first|refine kN ?_ _|refine kD ?_|refine kA ?_ _));exact BK371.out) hb);have n9_:=Am (below_step (by repeat (first|(with_reducible first|exact HB.out|apply bA|apply bN|apply bD|refine bS ?_ GE357.out|refine bS ?_ GE371.out)|exact HB.out)) hb);clear HO346;clear HO349;clear HO356;clear HO360;clear HO363;clear HO370;clear BK357;clear BK371;clear HB;have HO346:=n0_;have HO349:=n1_;have HO356:=n2_;have HO360:=n3_;have HO363:=n4_;have HO370:=n5_;have HO375:=n6_;have BK357:=n7_;have BK371:=n8_;have HB:=n9_;clear n0_ n1_ n2_ n3_ n4_ n5_ n6_ n7_ n8_ n9_;(try clear hb);(try clear hb2);(try clear hk);(try clear hi);(try clear ho0))|((with_reducible refine gate_dst (N:=9) rfl ?_);refine box_event ?hg (N:=9) ?hd (cs:=#[.bool false,.slice none 0 0,.int .i64 0,.int .i64 0]) (t:=31) ?hr ?_;(case hd => rfl);(case hg => rfl);(case hr => first|(go_simp;done)|(go_simp;rfl));intro gb378 hg w22 hbox hb;have n0_:=Am (Kd.R_below (by (with_reducible repeat (first|apply Kd.R_alloc|apply Kd.R_drewN|apply Kd.R_drew));exact HO346.out) hb);have n1_:=Am (Kd.R_below (by (with_reducible repeat (first|apply Kd.R_alloc|apply Kd.R_drewN|apply Kd.R_drew));exact HO349.out) hb);have n2_:=Am (Kd.R_below (by (with_reducible repeat (first|apply Kd.R_alloc|apply Kd.R_drewN|apply Kd.R_drew));exact HO356.out) hb);have n3_:=Am (Kd.R_below (by (with_reducible repeat (first|apply Kd.R_alloc|apply Kd.R_drewN|apply Kd.R_drew));exact HO360.out) hb);have n4_:=Am (Kd.R_below (by (with_reducible repeat (first|apply Kd.R_alloc|apply Kd.R_drewN|apply Kd.R_drew));exact HO363.out) hb);have n5_:=Am (Kd.R_below (by (with_reducible repeat (first|apply Kd.R_alloc|apply Kd.R_drewN|apply Kd.R_drew));exact HO370.out) hb);have n6_:=Am (Kd.R_below (by (with_reducible repeat (first|apply Kd.R_alloc|apply Kd.R_drewN|apply Kd.R_drew));exact HO375.out) hb);have n7_:=Am (blk_below (g:=gb357) (o:=.cells #[.slice Ao10 t344.length co10,.slice Ao12 t347.length co12,.int .i64 t350,.int .i64 t351,.int .i64 t352] 26 (0,0)) (by (with_reducible repeat (first|refine kN ?_ _|refine kD ?_|refine kA ?_ _));exact BK357.out) hb);have n8_:=Am (blk_below (g:=gb371) (o:=.cells #[.slice Ao15 t358.length co15,.slice Ao18 t361.length co18,.int .i64 t364,.int .i64 t365,.int .i64 t366] 26 (0,0)) (by (with_reducible repeat (first|refine kN ?_ _|refine kD ?_|refine kA ?_ _));exact BK371.out) hb);have n9_:=Am (below_step (by repeat (first|(with_reducible first|exact HB.out|apply bA|apply bN|apply bD|refine bS ?_ GE357.out|refine bS ?_ GE371.out)|exact HB.out)) hb);have n10_:=Am (hbox);have n11_:=Am ((by rw [hg];exact (below_size (by repeat (first|(with_reducible first|exact HB.out|apply bA|apply bN|apply bD|refine bS ?_ GE357.out|refine bS ?_ GE371.out)|exact HB.out))) : w.heap.size ≤ gb378));have n12_:=Am ((by rw [hg];exact (below_size (by repeat (first|(with_reducible first|exact HB.out|apply bA|apply bN|apply bD|refine bS ?_ GE357.out|refine bS ?_ GE371.out)|exact HB.out))) : w.heap.size ≤ gb378));have n13_:=Am ((by rw [hg];exact Nat.ne_of_lt (blk_lt (g:=gb357) (o:=.cells #[.slice Ao10 t344.length co10,.slice Ao12 t347.length co12,.int .i64 t350,.int .i64 t351,.int .i64 t352] 26 (0,0)) (by (with_reducible repeat (first|refine kN ?_ _|refine kD ?_|refine kA ?_ _));exact BK357.out)) : gb357 ≠ gb378));have n14_:=Am ((by rw [hg];exact Nat.ne_of_gt (blk_lt (g:=gb357) (o:=.cells #[.slice Ao10 t344.length co10,.slice Ao12 t347.length co12,.int .i64 t350,.int .i64 t351,.int .i64 t352] 26 (0,0)) (by (with_reducible repeat (first|refine kN ?_ _|refine kD ?_|refine kA ?_ _));exact BK357.out)) : gb378 ≠ gb357));have n15_:=Am ((by rw [hg];exact Nat.ne_of_lt (blk_lt (g:=gb371) (o:=.cells #[.slice Ao15 t358.length co15,.slice Ao18 t361.length co18,.int .i64 t364,.int .i64 t365,.int .i64 t366] 26 (0,0)) (by (with_reducible repeat (first|refine kN ?_ _|refine kD ?_|refine kA ?_ _));exact BK371.out)) : gb371 ≠ gb378));have n16_:=Am ((by rw [hg];exact Nat.ne_of_gt (blk_lt (g:=gb371) (o:=.cells #[.slice Ao15 t358.length co15,.slice Ao18 t361.length co18,.int .i64 t364,.int .i64 t365,.int .i64 t366] 26 (0,0)) (by (with_reducible repeat (first|refine kN ?_ _|refine kD ?_|refine kA ?_ _));exact BK371.out)) : gb378 ≠ gb371));clear HO346;clear HO349;clear HO356;clear HO360;clear HO363;clear HO370;clear HO375;clear BK357;clear BK371;clear HB;have HO346:=n0_;have HO349:=n1_;have HO356:=n2_;have HO360:=n3_;have HO363:=n4_;have HO370:=n5_;have HO375:=n6_;have BK357:=n7_;have BK371:=n8_;have HB:=n9_;have BK378:=n10_;have GW378:=n11_;have GE378:=n12_;have NB357_378:=n13_;have NB378_357:=n14_;have NB371_378:=n15_;have NB378_371:=n16_;clear n0_ n1_ n2_ n3_ n4_ n5_ n6_ n7_ n8_ n9_ n10_ n11_ n12_ n13_ n14_ n15_ n16_;clear hb hbox hg;have hnb23:=NB378_357.out;have hnc23:=NB357_378.out;have hnb24:=NB378_371.out;have hnc24:=NB371_378.out;have hcz25_0 : w22.cell? ⟨gb378,0,none⟩ = some (.bool false):=(kC BK378.out 0).trans rfl;have hcz25_1 : w22.cell? ⟨gb378,1,none⟩ = some (.slice none 0 0):=(kC BK378.out 1).trans rfl;have hcz25_2 : w22.cell? ⟨gb378,2,none⟩ = some (.int .i64 0):=(kC BK378.out 2).trans rfl;have hcz25_3 : w22.cell? ⟨gb378,3,none⟩ = some (.int .i64 0):=(kC BK378.out 3).trans rfl;have hfz25_0:=kF BK378.out 0;have hfz25_1:=kF BK378.out 1;have hfz25_2:=kF BK378.out 2;have hfz25_3:=kF BK378.out 3;obtain ⟨Ao26,co26,eo26⟩:=Kd.R_slice HO375.out;subst eo26;have hcz27_0 : w22.cell? ⟨gb371,0,none⟩ = some (.slice Ao15 t358.length co15):=(kC BK371.out 0).trans rfl;have hcz27_1 : w22.cell? ⟨gb371,1,none⟩ = some (.slice Ao18 t361.length co18):=(kC BK371.out 1).trans rfl;have hcz27_2 : w22.cell? ⟨gb371,2,none⟩ = some (.int .i64 t364):=(kC BK371.out 2).trans rfl;have hcz27_3 : w22.cell? ⟨gb371,3,none⟩ = some (.int .i64 t365):=(kC BK371.out 3).trans rfl;have hcz27_4 : w22.cell? ⟨gb371,4,none⟩ = some (.int .i64 t366):=(kC BK371.out 4).trans rfl;have hfz27_0:=kF BK371.out 0;have hfz27_1:=kF BK371.out 1;have hfz27_2:=kF BK371.out 2;have hfz27_3:=kF BK371.out 3;have hfz27_4:=kF BK371.out 4;obtain ⟨Ao28,co28,eo28⟩:=Kd.R_slice HO370.out;subst eo28)|((with_reducible refine gate_callee (f:=11) rfl ?_);refine goesL_ (some 36) rfl rfl Try.func11 (by kernel_rfl) rfl #[.agg #[.slice Ao15 t358.length co15,.slice Ao18 t361.length co18,.int .i64 t364,.int .i64 t365,.int .i64 t366],.int .i64 t353,.int .i64 0,.slice Ao28 t368.length co28] rfl (by (try simp only [List.map_toArray,List.map_cons,List.map_nil]);first|done|rfl|(simp only [List.length_drop,List.length_take];rfl)) ?_;(with_reducible refine (spec_Watch.calls k _ _ t358 _ _ t361 t364 t365 t366 t353 0 _ _ t368 t379 t380 t383 t384 _ ?side1 ?side2 ?side3 ?side4 ?side5 ?side6 A6.out).mono ?_);(case side1 => refine (Kd.R_reads' (e:=39) (base:=w.heap.size) (ok:=fun k_ => (True∧some k_ ≠ (.slice Ao10 t344.length co10 : Value).ownBlock)) (n:=t358.length) (c:=co15) ?_).2.2;exact (by (with_reducible repeat (first|apply Kd.R_alloc|apply Kd.R_drewN|apply Kd.R_drew));exact (Kd.R_mono (Kd.R_far (p:=⟨gb378,3,none⟩) (Kd.R_far (p:=⟨gb378,2,none⟩) (Kd.R_far (p:=⟨gb378,1,none⟩) (Kd.R_far (p:=⟨gb378,0,none⟩) (Kd.R_types HO360.out BK378.out (by decide)) (fun _ hk => hk.2) (.bool t372)) (fun _ hk => hk.2) (.slice Ao26 t373.length co26)) (fun _ hk => hk.2) (.int .i64 t376)) (fun _ hk => hk.2) (.int .i64 t377)) (fun _ h_ => h_.1))));(case side2 => exact (Kd.R_reads' HO360.out).2.1);(case side3 => refine (Kd.R_reads' (e:=45) (base:=w.heap.size) (ok:=fun k_ => (True∧some k_ ≠ (.slice Ao12 t347.length co12 : Value).ownBlock)) (n:=t361.length) (c:=co18) ?_).2.2;exact (by (with_reducible repeat (first|apply Kd.R_alloc|apply Kd.R_drewN|apply Kd.R_drew));exact (Kd.R_mono (Kd.R_far (p:=⟨gb378,3,none⟩) (Kd.R_far (p:=⟨gb378,2,none⟩) (Kd.R_far (p:=⟨gb378,1,none⟩) (Kd.R_far (p:=⟨gb378,0,none⟩) (Kd.R_types HO363.out BK378.out (by decide)) (fun _ hk => hk.2) (.bool t372)) (fun _ hk => hk.2) (.slice Ao26 t373.length co26)) (fun _ hk => hk.2) (.int .i64 t376)) (fun _ hk => hk.2) (.int .i64 t377)) (fun _ h_ => h_.1))));(case side4 => exact (Kd.R_reads' HO363.out).2.1);(case side5 => refine (Kd.R_reads' (e:=3) (base:=w.heap.size) (ok:=fun k_ => ((True∧some k_ ≠ (.slice Ao20 t354.length co20 : Value).ownBlock)∧some k_ ≠ (.slice Ao26 t373.length co26 : Value).ownBlock)) (n:=t368.length) (c:=co28) ?_).2.2;exact (by (with_reducible repeat (first|apply Kd.R_alloc|apply Kd.R_drewN|apply Kd.R_drew));exact (Kd.R_mono (Kd.R_far (p:=⟨gb378,3,none⟩) (Kd.R_far (p:=⟨gb378,2,none⟩) (Kd.R_far (p:=⟨gb378,1,none⟩) (Kd.R_far (p:=⟨gb378,0,none⟩) (Kd.R_types HO370.out BK378.out (by decide)) (fun _ hk => hk.2) (.bool t372)) (fun _ hk => hk.2) (.slice Ao26 t373.length co26)) (fun _ hk => hk.2) (.int .i64 t376)) (fun _ hk => hk.2) (.int .i64 t377)) (fun _ h_ => h_.1))));(case side6 => exact (Kd.R_reads' HO370.out).2.1);rintro e w29 ⟨v381,rfl,ho0,hb⟩;refine ⟨_,rfl,?_⟩;have n0_:=Am (Kd.R_below (by (with_reducible repeat (first|apply Kd.R_alloc|apply Kd.R_drewN|apply Kd.R_drew));exact (Kd.R_mono (Kd.R_far (p:=⟨gb378,3,none⟩) (Kd.R_far (p:=⟨gb378,2,none⟩) (Kd.R_far (p:=⟨gb378,1,none⟩) (Kd.R_far (p:=⟨gb378,0,none⟩) (Kd.R_types HO346.out BK378.out (by decide)) (fun _ hk => hk.2) (.bool t372)) (fun _ hk => hk.2) (.slice Ao26 t373.length co26)) (fun _ hk => hk.2) (.int .i64 t376)) (fun _ hk => hk.2) (.int .i64 t377)) (fun _ h_ => h_.1))) hb);have n1_:=Am (Kd.R_below (by (with_reducible repeat (first|apply Kd.R_alloc|apply Kd.R_drewN|apply Kd.R_drew));exact (Kd.R_mono (Kd.R_far (p:=⟨gb378,3,none⟩) (Kd.R_far (p:=⟨gb378,2,none⟩) (Kd.R_far (p:=⟨gb378,1,none⟩) (Kd.R_far (p:=⟨gb378,0,none⟩) (Kd.R_types HO349.out BK378.out (by decide)) (fun _ hk => hk.2) (.bool t372)) (fun _ hk => hk.2) (.slice Ao26 t373.length co26)) (fun _ hk => hk.2) (.int .i64 t376)) (fun _ hk => hk.2) (.int .i64 t377)) (fun _ h_ => h_.1))) hb);have n2_:=Am (Kd.R_elder' (by (with_reducible repeat (first|apply Kd.R_alloc|apply Kd.R_drewN|apply Kd.R_drew));exact (Kd.R_mono (Kd.R_far (p:=⟨gb378,3,none⟩) (Kd.R_far (p:=⟨gb378,2,none⟩) (Kd.R_far (p:=⟨gb378,1,none⟩) (Kd.R_far (p:=⟨gb378,0,none⟩) (Kd.R_types HO356.out BK378.out (by decide)) (fun _ hk => hk.2) (.bool t372)) (fun _ hk => hk.2) (.slice Ao26 t373.length co26)) (fun _ hk => hk.2) (.int .i64 t376)) (fun _ hk => hk.2) (.int .i64 t377)) (fun _ h_ => h_.1))) (Kd.R_base ho0) hb);have n3_:=Am (Kd.R_below (by (with_reducible repeat (first|apply Kd.R_alloc|apply Kd.R_drewN|apply Kd.R_drew));exact (Kd.R_mono (Kd.R_far (p:=⟨gb378,3,none⟩) (Kd.R_far (p:=⟨gb378,2,none⟩) (Kd.R_far (p:=⟨gb378,1,none⟩) (Kd.R_far (p:=⟨gb378,0,none⟩) (Kd.R_types HO360.out BK378.out (by decide)) (fun _ hk => hk.2) (.bool t372)) (fun _ hk => hk.2) (.slice Ao26 t373.length co26)) (fun _ hk => hk.2) (.int .i64 t376)) (fun _ hk => hk.2) (.int .i64 t377)) (fun _ h_ => h_.1))) hb);have n4_:=Am (Kd.R_below (by (with_reducible repeat (first|apply Kd.R_alloc|apply Kd.R_drewN|apply Kd.R_drew));exact (Kd.R_mono (Kd.R_far (p:=⟨gb378,3,none⟩) (Kd.R_far (p:=⟨gb378,2,none⟩) (Kd.R_far (p:=⟨gb378,1,none⟩) (Kd.R_far (p:=⟨gb378,0,none⟩) (Kd.R_types HO363.out BK378.out (by decide)) (fun _ hk => hk.2) (.bool t372)) (fun _ hk => hk.2) (.slice Ao26 t373.length co26)) (fun _ hk => hk.2) (.int .i64 t376)) (fun _ hk => hk.2) (.int .i64 t377)) (fun _ h_ => h_.1))) hb);have n5_:=Am (Kd.R_elder' (by (with_reducible repeat (first|apply Kd.R_alloc|apply Kd.R_drewN|apply Kd.R_drew));exact (Kd.R_mono (Kd.R_far (p:=⟨gb378,3,none⟩) (Kd.R_far (p:=⟨gb378,2,none⟩) (Kd.R_far (p:=⟨gb378,1,none⟩) (Kd.R_far (p:=⟨gb378,0,none⟩) (Kd.R_types HO370.out BK378.out (by decide)) (fun _ hk => hk.2) (.bool t372)) (fun _ hk => hk.2) (.slice Ao26 t373.length co26)) (fun _ hk => hk.2) (.int .i64 t376)) (fun _ hk => hk.2) (.int .i64 t377)) (fun _ h_ => h_.1))) (Kd.R_base ho0) hb);have n6_:=Am (Kd.R_elder' (by (with_reducible repeat (first|apply Kd.R_alloc|apply Kd.R_drewN|apply Kd.R_drew));exact (Kd.R_mono (Kd.R_far (p:=⟨gb378,3,none⟩) (Kd.R_far (p:=⟨gb378,2,none⟩) (Kd.R_far (p:=⟨gb378,1,none⟩) (Kd.R_far (p:=⟨gb378,0,none⟩) (Kd.R_types HO375.out BK378.out (by decide)) (fun _ hk => hk.2) (.bool t372)) (fun _ hk => hk.2) (.slice Ao26 t373.length co26)) (fun _ hk => hk.2) (.int .i64 t376)) (fun _ hk => hk.2) (.int .i64 t377)) (fun _ h_ => h_.1))) (Kd.R_base ho0) hb);have n7_:=Am (Kd.R_lower (Kd.R_new' (Kd.R_new' (Kd.R_new' ho0 (Kd.R_lt (by (with_reducible repeat (first|apply Kd.R_alloc|apply Kd.R_drewN|apply Kd.R_drew));exact (Kd.R_mono (Kd.R_far (p:=⟨gb378,3,none⟩) (Kd.R_far (p:=⟨gb378,2,none⟩) (Kd.R_far (p:=⟨gb378,1,none⟩) (Kd.R_far (p:=⟨gb378,0,none⟩) (Kd.R_types HO356.out BK378.out (by decide)) (fun _ hk => hk.2) (.bool t372)) (fun _ hk => hk.2) (.slice Ao26 t373.length co26)) (fun _ hk => hk.2) (.int .i64 t376)) (fun _ hk => hk.2) (.int .i64 t377)) (fun _ h_ => h_.1))))) (Kd.R_lt (by (with_reducible repeat (first|apply Kd.R_alloc|apply Kd.R_drewN|apply Kd.R_drew));exact (Kd.R_mono (Kd.R_far (p:=⟨gb378,3,none⟩) (Kd.R_far (p:=⟨gb378,2,none⟩) (Kd.R_far (p:=⟨gb378,1,none⟩) (Kd.R_far (p:=⟨gb378,0,none⟩) (Kd.R_types HO370.out BK378.out (by decide)) (fun _ hk => hk.2) (.bool t372)) (fun _ hk => hk.2) (.slice Ao26 t373.length co26)) (fun _ hk => hk.2) (.int .i64 t376)) (fun _ hk => hk.2) (.int .i64 t377)) (fun _ h_ => h_.1))))) (Kd.R_lt (by (with_reducible repeat (first|apply Kd.R_alloc|apply Kd.R_drewN|apply Kd.R_drew));exact (Kd.R_mono (Kd.R_far (p:=⟨gb378,3,none⟩) (Kd.R_far (p:=⟨gb378,2,none⟩) (Kd.R_far (p:=⟨gb378,1,none⟩) (Kd.R_far (p:=⟨gb378,0,none⟩) (Kd.R_types HO375.out BK378.out (by decide)) (fun _ hk => hk.2) (.bool t372)) (fun _ hk => hk.2) (.slice Ao26 t373.length co26)) (fun _ hk => hk.2) (.int .i64 t376)) (fun _ hk => hk.2) (.int .i64 t377)) (fun _ h_ => h_.1))))) (below_size (by repeat (first|(with_reducible first|exact HB.out|apply bA|apply bN|apply bD|refine bS ?_ GE357.out|refine bS ?_ GE371.out|refine bS ?_ GE378.out)|exact HB.out))));have n8_:=Am (blk_below (g:=gb357) (o:=.cells #[.slice Ao10 t344.length co10,.slice Ao12 t347.length co12,.int .i64 t350,.int .i64 t351,.int .i64 t352] 26 (0,0)) (by (with_reducible repeat (first|refine kN ?_ _|refine kD ?_|refine kA ?_ _));refine blk_far ?_ NB357_378.out _;(with_reducible repeat (first|refine kN ?_ _|refine kD ?_|refine kA ?_ _));refine blk_far ?_ NB357_378.out _;(with_reducible repeat (first|refine kN ?_ _|refine kD ?_|refine kA ?_ _));refine blk_far ?_ NB357_378.out _;(with_reducible repeat (first|refine kN ?_ _|refine kD ?_|refine kA ?_ _));refine blk_far ?_ NB357_378.out _;(with_reducible repeat (first|refine kN ?_ _|refine kD ?_|refine kA ?_ _));exact BK357.out) hb);have n9_:=Am (blk_below (g:=gb371) (o:=.cells #[.slice Ao15 t358.length co15,.slice Ao18 t361.length co18,.int .i64 t364,.int .i64 t365,.int .i64 t366] 26 (0,0)) (by (with_reducible repeat (first|refine kN ?_ _|refine kD ?_|refine kA ?_ _));refine blk_far ?_ NB371_378.out _;(with_reducible repeat (first|refine kN ?_ _|refine kD ?_|refine kA ?_ _));refine blk_far ?_ NB371_378.out _;(with_reducible repeat (first|refine kN ?_ _|refine kD ?_|refine kA ?_ _));refine blk_far ?_ NB371_378.out _;(with_reducible repeat (first|refine kN ?_ _|refine kD ?_|refine kA ?_ _));refine blk_far ?_ NB371_378.out _;(with_reducible repeat (first|refine kN ?_ _|refine kD ?_|refine kA ?_ _));exact BK371.out) hb);have n10_:=Am (blk_below (g:=gb378) (o:=.cells #[.bool t372,.slice Ao26 t373.length co26,.int .i64 t376,.int .i64 t377] 31 (0,0)) (by (with_reducible repeat (first|refine kN ?_ _|refine kD ?_|refine kA ?_ _));refine blk_put (cs:=#[.bool t372,.slice Ao26 t373.length co26,.int .i64 t376,.int .i64 0]) ?_ 3 _ rfl;(with_reducible repeat (first|refine kN ?_ _|refine kD ?_|refine kA ?_ _));refine blk_put (cs:=#[.bool t372,.slice Ao26 t373.length co26,.int .i64 0,.int .i64 0]) ?_ 2 _ rfl;(with_reducible repeat (first|refine kN ?_ _|refine kD ?_|refine kA ?_ _));refine blk_put (cs:=#[.bool t372,.slice none 0 0,.int .i64 0,.int .i64 0]) ?_ 1 _ rfl;(with_reducible repeat (first|refine kN ?_ _|refine kD ?_|refine kA ?_ _));refine blk_put (cs:=#[.bool false,.slice none 0 0,.int .i64 0,.int .i64 0]) ?_ 0 _ rfl;(with_reducible repeat (first|refine kN ?_ _|refine kD ?_|refine kA ?_ _));exact BK378.out) hb);have n11_:=Am (below_step (by repeat (first|(with_reducible first|exact HB.out|apply bA|apply bN|apply bD|refine bS ?_ GE357.out|refine bS ?_ GE371.out|refine bS ?_ GE378.out)|exact HB.out)) hb);clear HO346;clear HO349;clear HO356;clear HO360;clear HO363;clear HO370;clear HO375;clear BK357;clear BK371;clear BK378;clear HB;have HO346:=n0_;have HO349:=n1_;have HO356:=n2_;have HO360:=n3_;have HO363:=n4_;have HO370:=n5_;have HO375:=n6_;have HO382:=n7_;have BK357:=n8_;have BK371:=n9_;have BK378:=n10_;have HB:=n11_;clear n0_ n1_ n2_ n3_ n4_ n5_ n6_ n7_ n8_ n9_ n10_ n11_;(try clear hb);(try clear hb2);(try clear hk);(try clear hi);(try clear ho0))|((with_reducible refine gate_dst (N:=10) rfl ?_);refine box_event ?hg (N:=10) ?hd (cs:=#[.bool false,.slice none 0 0,.int .i64 0,.int .i64 0]) (t:=31) ?hr ?_;(case hd => rfl);(case hg => rfl);(case hr => first|(go_simp;done)|(go_simp;rfl));intro gb385 hg w30 hbox hb;have n0_:=Am (Kd.R_below (by (with_reducible repeat (first|apply Kd.R_alloc|apply Kd.R_drewN|apply Kd.R_drew));exact HO346.out) hb);have n1_:=Am (Kd.R_below (by (with_reducible repeat (first|apply Kd.R_alloc|apply Kd.R_drewN|apply Kd.R_drew));exact HO349.out) hb);have n2_:=Am (Kd.R_below (by (with_reducible repeat (first|apply Kd.R_alloc|apply Kd.R_drewN|apply Kd.R_drew));exact HO356.out) hb);have n3_:=Am (Kd.R_below (by (with_reducible repeat (first|apply Kd.R_alloc|apply Kd.R_drewN|apply Kd.R_drew));exact HO360.out) hb);have n4_:=Am (Kd.R_below (by (with_reducible repeat (first|apply Kd.R_alloc|apply Kd.R_drewN|apply Kd.R_drew));exact HO363.out) hb);have n5_:=Am (Kd.R_below (by (with_reducible repeat (first|apply Kd.R_alloc|apply Kd.R_drewN|apply Kd.R_drew));exact HO370.out) hb);have n6_:=Am (Kd.R_below (by (with_reducible repeat (first|apply Kd.R_alloc|apply Kd.R_drewN|apply Kd.R_drew));exact HO375.out) hb);have n7_:=Am (Kd.R_below (by (with_reducible repeat (first|apply Kd.R_alloc|apply Kd.R_drewN|apply Kd.R_drew));exact HO382.out) hb);have n8_:=Am (blk_below (g:=gb357) (o:=.cells #[.slice Ao10 t344.length co10,.slice Ao12 t347.length co12,.int .i64 t350,.int .i64 t351,.int .i64 t352] 26 (0,0)) (by (with_reducible repeat (first|refine kN ?_ _|refine kD ?_|refine kA ?_ _));exact BK357.out) hb);have n9_:=Am (blk_below (g:=gb371) (o:=.cells #[.slice Ao15 t358.length co15,.slice Ao18 t361.length co18,.int .i64 t364,.int .i64 t365,.int .i64 t366] 26 (0,0)) (by (with_reducible repeat (first|refine kN ?_ _|refine kD ?_|refine kA ?_ _));exact BK371.out) hb);have n10_:=Am (blk_below (g:=gb378) (o:=.cells #[.bool t372,.slice Ao26 t373.length co26,.int .i64 t376,.int .i64 t377] 31 (0,0)) (by (with_reducible repeat (first|refine kN ?_ _|refine kD ?_|refine kA ?_ _));exact BK378.out) hb);have n11_:=Am (below_step (by repeat (first|(with_reducible first|exact HB.out|apply bA|apply bN|apply bD|refine bS ?_ GE357.out|refine bS ?_ GE371.out|refine bS ?_ GE378.out)|exact HB.out)) hb);have n12_:=Am (hbox);have n13_:=Am ((by rw [hg];exact (below_size (by repeat (first|(with_reducible first|exact HB.out|apply bA|apply bN|apply bD|refine bS ?_ GE357.out|refine bS ?_ GE371.out|refine bS ?_ GE378.out)|exact HB.out))) : w.heap.size ≤ gb385));have n14_:=Am ((by rw [hg];exact (below_size (by repeat (first|(with_reducible first|exact HB.out|apply bA|apply bN|apply bD|refine bS ?_ GE357.out|refine bS ?_ GE371.out|refine bS ?_ GE378.out)|exact HB.out))) : w.heap.size ≤ gb385));have n15_:=Am ((by rw [hg];exact Nat.ne_of_lt (blk_lt (g:=gb357) (o:=.cells #[.slice Ao10 t344.length co10,.slice Ao12 t347.length co12,.int .i64 t350,.int .i64 t351,.int .i64 t352] 26 (0,0)) (by (with_reducible repeat (first|refine kN ?_ _|refine kD ?_|refine kA ?_ _));exact BK357.out)) : gb357 ≠ gb385));have n16_:=Am ((by rw [hg];exact Nat.ne_of_gt (blk_lt (g:=gb357) (o:=.cells #[.slice Ao10 t344.length co10,.slice Ao12 t347.length co12,.int .i64 t350,.int .i64 t351,.int .i64 t352] 26 (0,0)) (by (with_reducible repeat (first|refine kN ?_ _|refine kD ?_|refine kA ?_ _));exact BK357.out)) : gb385 ≠ gb357));have n17_:=Am ((by rw [hg];exact Nat.ne_of_lt (blk_lt (g:=gb371) (o:=.cells #[.slice Ao15 t358.length co15,.slice Ao18 t361.length co18,.int .i64 t364,.int .i64 t365,.int .i64 t366] 26 (0,0)) (by (with_reducible repeat (first|refine kN ?_ _|refine kD ?_|refine kA ?_ _));exact BK371.out)) : gb371 ≠ gb385));have n18_:=Am ((by rw [hg];exact Nat.ne_of_gt (blk_lt (g:=gb371) (o:=.cells #[.slice Ao15 t358.length co15,.slice Ao18 t361.length co18,.int .i64 t364,.int .i64 t365,.int .i64 t366] 26 (0,0)) (by (with_reducible repeat (first|refine kN ?_ _|refine kD ?_|refine kA ?_ _));exact BK371.out)) : gb385 ≠ gb371));have n19_:=Am ((by rw [hg];exact Nat.ne_of_lt (blk_lt (g:=gb378) (o:=.cells #[.bool t372,.slice Ao26 t373.length co26,.int .i64 t376,.int .i64 t377] 31 (0,0)) (by (with_reducible repeat (first|refine kN ?_ _|refine kD ?_|refine kA ?_ _));exact BK378.out)) : gb378 ≠ gb385));have n20_:=Am ((by rw [hg];exact Nat.ne_of_gt (blk_lt (g:=gb378) (o:=.cells #[.bool t372,.slice Ao26 t373.length co26,.int .i64 t376,.int .i64 t377] 31 (0,0)) (by (with_reducible repeat (first|refine kN ?_ _|refine kD ?_|refine kA ?_ _));exact BK378.out)) : gb385 ≠ gb378));clear HO346;clear HO349;clear HO356;clear HO360;clear HO363;clear HO370;clear HO375;clear HO382;clear BK357;clear BK371;clear BK378;clear HB;have HO346:=n0_;have HO349:=n1_;have HO356:=n2_;have HO360:=n3_;have HO363:=n4_;have HO370:=n5_;have HO375:=n6_;have HO382:=n7_;have BK357:=n8_;have BK371:=n9_;have BK378:=n10_;have HB:=n11_;have BK385:=n12_;have GW385:=n13_;have GE385:=n14_;have NB357_385:=n15_;have NB385_357:=n16_;have NB371_385:=n17_;have NB385_371:=n18_;have NB378_385:=n19_;have NB385_378:=n20_;clear n0_ n1_ n2_ n3_ n4_ n5_ n6_ n7_ n8_ n9_ n10_ n11_ n12_ n13_ n14_ n15_ n16_ n17_ n18_ n19_ n20_;clear hb hbox hg;have hnb31:=NB385_357.out;have hnc31:=NB357_385.out;have hnb32:=NB385_371.out;have hnc32:=NB371_385.out;have hnb33:=NB385_378.out;have hnc33:=NB378_385.out;have hcz34_0 : w30.cell? ⟨gb385,0,none⟩ = some (.bool false):=(kC BK385.out 0).trans rfl;have hcz34_1 : w30.cell? ⟨gb385,1,none⟩ = some (.slice none 0 0):=(kC BK385.out 1).trans rfl;have hcz34_2 : w30.cell? ⟨gb385,2,none⟩ = some (.int .i64 0):=(kC BK385.out 2).trans rfl;have hcz34_3 : w30.cell? ⟨gb385,3,none⟩ = some (.int .i64 0):=(kC BK385.out 3).trans rfl;have hfz34_0:=kF BK385.out 0;have hfz34_1:=kF BK385.out 1;have hfz34_2:=kF BK385.out 2;have hfz34_3:=kF BK385.out 3;obtain ⟨Ao35,co35,eo35⟩:=Kd.R_slice HO382.out;subst eo35))
  (try simp only [Act.put,List.setIfInBounds_toArray,List.set_cons_zero,List.set_cons_succ])
  go_cut [75] (fun v75 wc => ∃ (kq : Nat) (x75_6 : Bool),v75 = .bool x75_6∧As (laws_FnTop.j0 kq t353 x75_6 t344 t347 t350 t351 t352 t372 t373 t376 t377 = some r)∧As (kq ≤ k)∧As (Kd.R k39 39 wc w.heap.size (fun k_ => some k_ ≠ ((.slice Ao15 t358.length co15) : Value).ownBlock) (.slice Ao10 t344.length co10) t344)∧As (Kd.R k45 45 wc w.heap.size (fun k_ => some k_ ≠ ((.slice Ao18 t361.length co18) : Value).ownBlock) (.slice Ao12 t347.length co12) t347)∧As (Kd.R k39 39 wc w.heap.size (fun k_ => some k_ ≠ ((.slice Ao10 t344.length co10) : Value).ownBlock) (.slice Ao15 t358.length co15) t358)∧As (Kd.R k45 45 wc w.heap.size (fun k_ => some k_ ≠ ((.slice Ao12 t347.length co12) : Value).ownBlock) (.slice Ao18 t361.length co18) t361)∧As (Kd.R (Kd.int .i64) 3 wc w.heap.size (fun k_ => some k_ ≠ ((.slice Ao35 t380.length co35) : Value).ownBlock) (.slice Ao26 t373.length co26) t373)∧As (Kd.R (Kd.int .i64) 3 wc w.heap.size (fun k_ => some k_ ≠ ((.slice Ao26 t373.length co26) : Value).ownBlock) (.slice Ao35 t380.length co35) t380)∧As (wc.heap[gb357]? = some (.cells #[(.slice Ao10 t344.length co10),(.slice Ao12 t347.length co12),.int .i64 t350,.int .i64 t351,.int .i64 t352] 26 (0,0)))∧As (wc.heap[gb371]? = some (.cells #[(.slice Ao15 t358.length co15),(.slice Ao18 t361.length co18),.int .i64 t364,.int .i64 t365,.int .i64 t366] 26 (0,0)))∧As (wc.heap[gb378]? = some (.cells #[.bool t372,(.slice Ao26 t373.length co26),.int .i64 t376,.int .i64 t377] 31 (0,0)))∧As (wc.heap[gb385]? = some (.cells #[.bool t379,(.slice Ao35 t380.length co35),.int .i64 t383,.int .i64 t384] 31 (0,0)))∧As (Below w.heap.size w wc))
  case first =>
   have H:=HC7.out
   clear HC7
   by_cases c36 : (t372 != t379) = true
   ·rw [if_pos c36] at H
    have c36b0 : (t372 != t379) = true:=c36
    (try (have c36b1 : decide (t372 = t379) = false:=by simpa using c36))
    (try (have c36b2 : (t372 == t379) = false:=by simpa using c36))
    (try (have c36b3 : ¬ (t372 = t379):=by simpa using c36))
    clear c36
    (first|rw [c36b0]|(simp only [i64_w,i32_w];rw [c36b0])|skip)
    exact absurd H (by rw [hrt.out];apply laws_FnTop.j0_no)
   ·rw [if_neg c36] at H
    have c36b0 : (t372 != t379) = false:=by simpa using c36
    (try (have c36b1 : decide (t372 = t379) = true:=by simpa using c36))
    (try (have c36b2 : (t372 == t379) = true:=by simpa using c36))
    clear c36
    (first|rw [c36b0]|(simp only [i64_w,i32_w];rw [c36b0])|skip)
    by_cases c37 : t376 = t383
    ·rw [if_pos c37] at H
     have c37b0 : (t376 == t383) = true:=beq_iff_eq.mpr c37
     have c37b1 : (t376 != t383) = false:=bne_eq_false_iff_eq.mpr c37
     clear c37
     by_cases c38 : t377 = t384
     ·rw [if_pos c38] at H
      have c38b0 : (t377 == t384) = true:=beq_iff_eq.mpr c38
      have c38b1 : (t377 != t384) = false:=bne_eq_false_iff_eq.mpr c38
      clear c38
      replace H:=Option.bind_eq_some_iff.mp H
      obtain ⟨t386,A390,H⟩:=H
      replace H : (if t386 = true then ((laws_wProfile.f k t344 t347 t350 t351 t352 t358 t361 t364 t365 t366).bind fun t387 => (if t387 = true then ((laws_wInts.f k t354 t368).bind fun t388 => (laws_FnTop.j0 k t353 (!t388) t344 t347 t350 t351 t352 t372 t373 t376 t377)) else (laws_FnTop.j0 k t353 true t344 t347 t350 t351 t352 t372 t373 t376 t377))) else (laws_FnTop.j0 k t353 true t344 t347 t350 t351 t352 t372 t373 t376 t377)) = some r:=H
      have A39:=Am A390
      clear A390
      by_cases c40 : t386 = true
      ·subst c40
       have H1 : ((laws_wProfile.f k t344 t347 t350 t351 t352 t358 t361 t364 t365 t366).bind fun t387 => (if t387 = true then ((laws_wInts.f k t354 t368).bind fun t388 => (laws_FnTop.j0 k t353 (!t388) t344 t347 t350 t351 t352 t372 t373 t376 t377)) else (laws_FnTop.j0 k t353 true t344 t347 t350 t351 t352 t372 t373 t376 t377))) = some r:=by rw [if_pos rfl] at H;exact H
       clear H
       have H:=H1
       clear H1
       replace H:=Option.bind_eq_some_iff.mp H
       obtain ⟨t387,A410,H⟩:=H
       replace H : (if t387 = true then ((laws_wInts.f k t354 t368).bind fun t388 => (laws_FnTop.j0 k t353 (!t388) t344 t347 t350 t351 t352 t372 t373 t376 t377)) else (laws_FnTop.j0 k t353 true t344 t347 t350 t351 t352 t372 t373 t376 t377)) = some r:=H
       have A41:=Am A410
       clear A410
       by_cases c42 : t387 = true
       ·subst c42
        have H1 : ((laws_wInts.f k t354 t368).bind fun t388 => (laws_FnTop.j0 k t353 (!t388) t344 t347 t350 t351 t352 t372 t373 t376 t377)) = some r:=by rw [if_pos rfl] at H;exact H
        clear H
        have H:=H1
        clear H1
        replace H:=Option.bind_eq_some_iff.mp H
        obtain ⟨t388,A430,H⟩:=H
        replace H : (laws_FnTop.j0 k t353 (!t388) t344 t347 t350 t351 t352 t372 t373 t376 t377) = some r:=H
        have A43:=Am A430
        clear A430
        have H':=Am H
        clear H
        have hnb44:=NB378_357.out
        have hnc44:=NB357_378.out
        have hnb45:=NB378_371.out
        have hnc45:=NB371_378.out
        have hnb46:=NB378_385.out
        have hnc46:=NB385_378.out
        have hcz47_0 : w30.cell? ⟨gb378,0,none⟩ = some (.bool t372):=(kC BK378.out 0).trans rfl
        have hcz47_1 : w30.cell? ⟨gb378,1,none⟩ = some (.slice Ao26 t373.length co26):=(kC BK378.out 1).trans rfl
        have hcz47_2 : w30.cell? ⟨gb378,2,none⟩ = some (.int .i64 t376):=(kC BK378.out 2).trans rfl
        have hcz47_3 : w30.cell? ⟨gb378,3,none⟩ = some (.int .i64 t377):=(kC BK378.out 3).trans rfl
        have hfz47_0:=kF BK378.out 0
        have hfz47_1:=kF BK378.out 1
        have hfz47_2:=kF BK378.out 2
        have hfz47_3:=kF BK378.out 3
        have hnb48:=NB385_357.out
        have hnc48:=NB357_385.out
        have hnb49:=NB385_371.out
        have hnc49:=NB371_385.out
        have hcz50_0 : w30.cell? ⟨gb385,0,none⟩ = some (.bool false):=(kC BK385.out 0).trans rfl
        have hcz50_1 : w30.cell? ⟨gb385,1,none⟩ = some (.slice none 0 0):=(kC BK385.out 1).trans rfl
        have hcz50_2 : w30.cell? ⟨gb385,2,none⟩ = some (.int .i64 0):=(kC BK385.out 2).trans rfl
        have hcz50_3 : w30.cell? ⟨gb385,3,none⟩ = some (.int .i64 0):=(kC BK385.out 3).trans rfl
        have hfz50_0:=kF BK385.out 0
        have hfz50_1:=kF BK385.out 1
        have hfz50_2:=kF BK385.out 2
        have hfz50_3:=kF BK385.out 3
        go_wp2_with (first|(go_at_call 12;(with_reducible refine (laws_wInts.calls k _ _ t373 _ _ t380 true _ ?side1 ?side2 ?side3 ?side4 A39.out).mono ?_);(case side1 => refine (Kd.R_reads' (e:=3) (base:=w.heap.size) (ok:=fun k_ => (((True∧some k_ ≠ (.slice Ao20 t354.length co20 : Value).ownBlock)∧some k_ ≠ (.slice Ao28 t368.length co28 : Value).ownBlock)∧some k_ ≠ (.slice Ao35 t380.length co35 : Value).ownBlock)) (n:=t373.length) (c:=co26) ?_).2.2;exact (by (with_reducible repeat (first|apply Kd.R_alloc|apply Kd.R_drewN|apply Kd.R_drew));exact (Kd.R_mono (Kd.R_far (p:=⟨gb385,3,none⟩) (Kd.R_far (p:=⟨gb385,2,none⟩) (Kd.R_far (p:=⟨gb385,1,none⟩) (Kd.R_far (p:=⟨gb385,0,none⟩) (Kd.R_types HO375.out BK385.out (by decide)) (fun _ hk => hk.2) (.bool t379)) (fun _ hk => hk.2) (.slice Ao35 t380.length co35)) (fun _ hk => hk.2) (.int .i64 t383)) (fun _ hk => hk.2) (.int .i64 t384)) (fun _ h_ => h_.1))));(case side2 => exact (Kd.R_reads' HO375.out).2.1);(case side3 => refine (Kd.R_reads' (e:=3) (base:=w.heap.size) (ok:=fun k_ => (((True∧some k_ ≠ (.slice Ao20 t354.length co20 : Value).ownBlock)∧some k_ ≠ (.slice Ao28 t368.length co28 : Value).ownBlock)∧some k_ ≠ (.slice Ao26 t373.length co26 : Value).ownBlock)) (n:=t380.length) (c:=co35) ?_).2.2;exact (by (with_reducible repeat (first|apply Kd.R_alloc|apply Kd.R_drewN|apply Kd.R_drew));exact (Kd.R_mono (Kd.R_far (p:=⟨gb385,3,none⟩) (Kd.R_far (p:=⟨gb385,2,none⟩) (Kd.R_far (p:=⟨gb385,1,none⟩) (Kd.R_far (p:=⟨gb385,0,none⟩) (Kd.R_types HO382.out BK385.out (by decide)) (fun _ hk => hk.2) (.bool t379)) (fun _ hk => hk.2) (.slice Ao35 t380.length co35)) (fun _ hk => hk.2) (.int .i64 t383)) (fun _ hk => hk.2) (.int .i64 t384)) (fun _ h_ => h_.1))));(case side4 => exact (Kd.R_reads' HO382.out).2.1);rintro e w' ⟨rfl,⟨nd,rfl⟩⟩;have hnb51:=NB357_371.out;have hnc51:=NB371_357.out;have hcz52_0 : w30.cell? ⟨gb357,0,none⟩ = some (.slice Ao10 t344.length co10):=(kC BK357.out 0).trans rfl;have hcz52_1 : w30.cell? ⟨gb357,1,none⟩ = some (.slice Ao12 t347.length co12):=(kC BK357.out 1).trans rfl;have hcz52_2 : w30.cell? ⟨gb357,2,none⟩ = some (.int .i64 t350):=(kC BK357.out 2).trans rfl;have hcz52_3 : w30.cell? ⟨gb357,3,none⟩ = some (.int .i64 t351):=(kC BK357.out 3).trans rfl;have hcz52_4 : w30.cell? ⟨gb357,4,none⟩ = some (.int .i64 t352):=(kC BK357.out 4).trans rfl;have hfz52_0:=kF BK357.out 0;have hfz52_1:=kF BK357.out 1;have hfz52_2:=kF BK357.out 2;have hfz52_3:=kF BK357.out 3;have hfz52_4:=kF BK357.out 4;have hcz53_0 : w30.cell? ⟨gb371,0,none⟩ = some (.slice Ao15 t358.length co15):=(kC BK371.out 0).trans rfl;have hcz53_1 : w30.cell? ⟨gb371,1,none⟩ = some (.slice Ao18 t361.length co18):=(kC BK371.out 1).trans rfl;have hcz53_2 : w30.cell? ⟨gb371,2,none⟩ = some (.int .i64 t364):=(kC BK371.out 2).trans rfl;have hcz53_3 : w30.cell? ⟨gb371,3,none⟩ = some (.int .i64 t365):=(kC BK371.out 3).trans rfl;have hcz53_4 : w30.cell? ⟨gb371,4,none⟩ = some (.int .i64 t366):=(kC BK371.out 4).trans rfl;have hfz53_0:=kF BK371.out 0;have hfz53_1:=kF BK371.out 1;have hfz53_2:=kF BK371.out 2;have hfz53_3:=kF BK371.out 3;have hfz53_4:=kF BK371.out 4)|(go_at_call 13;(with_reducible refine (laws_wProfile.calls k _ _ t344 _ _ t347 t350 t351 t352 _ _ t358 _ _ t361 t364 t365 t366 true _ ?side1 ?side2 ?side3 ?side4 ?side5 ?side6 ?side7 ?side8 A41.out).mono ?_);(case side1 => refine (Kd.R_reads' (e:=39) (base:=w.heap.size) (ok:=fun k_ => (True∧some k_ ≠ (.slice Ao15 t358.length co15 : Value).ownBlock)) (n:=t344.length) (c:=co10) ?_).2.2;exact (by (with_reducible repeat (first|apply Kd.R_alloc|apply Kd.R_drewN|apply Kd.R_drew));exact (Kd.R_mono (Kd.R_far (p:=⟨gb385,3,none⟩) (Kd.R_far (p:=⟨gb385,2,none⟩) (Kd.R_far (p:=⟨gb385,1,none⟩) (Kd.R_far (p:=⟨gb385,0,none⟩) (Kd.R_types HO346.out BK385.out (by decide)) (fun _ hk => hk.2) (.bool t379)) (fun _ hk => hk.2) (.slice Ao35 t380.length co35)) (fun _ hk => hk.2) (.int .i64 t383)) (fun _ hk => hk.2) (.int .i64 t384)) (fun _ h_ => h_.1))));(case side2 => exact (Kd.R_reads' HO346.out).2.1);(case side3 => refine (Kd.R_reads' (e:=45) (base:=w.heap.size) (ok:=fun k_ => (True∧some k_ ≠ (.slice Ao18 t361.length co18 : Value).ownBlock)) (n:=t347.length) (c:=co12) ?_).2.2;exact (by (with_reducible repeat (first|apply Kd.R_alloc|apply Kd.R_drewN|apply Kd.R_drew));exact (Kd.R_mono (Kd.R_far (p:=⟨gb385,3,none⟩) (Kd.R_far (p:=⟨gb385,2,none⟩) (Kd.R_far (p:=⟨gb385,1,none⟩) (Kd.R_far (p:=⟨gb385,0,none⟩) (Kd.R_types HO349.out BK385.out (by decide)) (fun _ hk => hk.2) (.bool t379)) (fun _ hk => hk.2) (.slice Ao35 t380.length co35)) (fun _ hk => hk.2) (.int .i64 t383)) (fun _ hk => hk.2) (.int .i64 t384)) (fun _ h_ => h_.1))));(case side4 => exact (Kd.R_reads' HO349.out).2.1);(case side5 => refine (Kd.R_reads' (e:=39) (base:=w.heap.size) (ok:=fun k_ => (True∧some k_ ≠ (.slice Ao10 t344.length co10 : Value).ownBlock)) (n:=t358.length) (c:=co15) ?_).2.2;exact (by (with_reducible repeat (first|apply Kd.R_alloc|apply Kd.R_drewN|apply Kd.R_drew));exact (Kd.R_mono (Kd.R_far (p:=⟨gb385,3,none⟩) (Kd.R_far (p:=⟨gb385,2,none⟩) (Kd.R_far (p:=⟨gb385,1,none⟩) (Kd.R_far (p:=⟨gb385,0,none⟩) (Kd.R_types HO360.out BK385.out (by decide)) (fun _ hk => hk.2) (.bool t379)) (fun _ hk => hk.2) (.slice Ao35 t380.length co35)) (fun _ hk => hk.2) (.int .i64 t383)) (fun _ hk => hk.2) (.int .i64 t384)) (fun _ h_ => h_.1))));(case side6 => exact (Kd.R_reads' HO360.out).2.1);(case side7 => refine (Kd.R_reads' (e:=45) (base:=w.heap.size) (ok:=fun k_ => (True∧some k_ ≠ (.slice Ao12 t347.length co12 : Value).ownBlock)) (n:=t361.length) (c:=co18) ?_).2.2;exact (by (with_reducible repeat (first|apply Kd.R_alloc|apply Kd.R_drewN|apply Kd.R_drew));exact (Kd.R_mono (Kd.R_far (p:=⟨gb385,3,none⟩) (Kd.R_far (p:=⟨gb385,2,none⟩) (Kd.R_far (p:=⟨gb385,1,none⟩) (Kd.R_far (p:=⟨gb385,0,none⟩) (Kd.R_types HO363.out BK385.out (by decide)) (fun _ hk => hk.2) (.bool t379)) (fun _ hk => hk.2) (.slice Ao35 t380.length co35)) (fun _ hk => hk.2) (.int .i64 t383)) (fun _ hk => hk.2) (.int .i64 t384)) (fun _ h_ => h_.1))));(case side8 => exact (Kd.R_reads' HO363.out).2.1);rintro e w54 ⟨rfl,hb⟩;have n0_:=Am (Kd.R_below (by (with_reducible repeat (first|apply Kd.R_alloc|apply Kd.R_drewN|apply Kd.R_drew));exact (Kd.R_mono (Kd.R_far (p:=⟨gb385,3,none⟩) (Kd.R_far (p:=⟨gb385,2,none⟩) (Kd.R_far (p:=⟨gb385,1,none⟩) (Kd.R_far (p:=⟨gb385,0,none⟩) (Kd.R_types HO346.out BK385.out (by decide)) (fun _ hk => hk.2) (.bool t379)) (fun _ hk => hk.2) (.slice Ao35 t380.length co35)) (fun _ hk => hk.2) (.int .i64 t383)) (fun _ hk => hk.2) (.int .i64 t384)) (fun _ h_ => h_.1))) hb);have n1_:=Am (Kd.R_below (by (with_reducible repeat (first|apply Kd.R_alloc|apply Kd.R_drewN|apply Kd.R_drew));exact (Kd.R_mono (Kd.R_far (p:=⟨gb385,3,none⟩) (Kd.R_far (p:=⟨gb385,2,none⟩) (Kd.R_far (p:=⟨gb385,1,none⟩) (Kd.R_far (p:=⟨gb385,0,none⟩) (Kd.R_types HO349.out BK385.out (by decide)) (fun _ hk => hk.2) (.bool t379)) (fun _ hk => hk.2) (.slice Ao35 t380.length co35)) (fun _ hk => hk.2) (.int .i64 t383)) (fun _ hk => hk.2) (.int .i64 t384)) (fun _ h_ => h_.1))) hb);have n2_:=Am (Kd.R_below (by (with_reducible repeat (first|apply Kd.R_alloc|apply Kd.R_drewN|apply Kd.R_drew));exact (Kd.R_mono (Kd.R_far (p:=⟨gb385,3,none⟩) (Kd.R_far (p:=⟨gb385,2,none⟩) (Kd.R_far (p:=⟨gb385,1,none⟩) (Kd.R_far (p:=⟨gb385,0,none⟩) (Kd.R_types HO356.out BK385.out (by decide)) (fun _ hk => hk.2) (.bool t379)) (fun _ hk => hk.2) (.slice Ao35 t380.length co35)) (fun _ hk => hk.2) (.int .i64 t383)) (fun _ hk => hk.2) (.int .i64 t384)) (fun _ h_ => h_.1))) hb);have n3_:=Am (Kd.R_below (by (with_reducible repeat (first|apply Kd.R_alloc|apply Kd.R_drewN|apply Kd.R_drew));exact (Kd.R_mono (Kd.R_far (p:=⟨gb385,3,none⟩) (Kd.R_far (p:=⟨gb385,2,none⟩) (Kd.R_far (p:=⟨gb385,1,none⟩) (Kd.R_far (p:=⟨gb385,0,none⟩) (Kd.R_types HO360.out BK385.out (by decide)) (fun _ hk => hk.2) (.bool t379)) (fun _ hk => hk.2) (.slice Ao35 t380.length co35)) (fun _ hk => hk.2) (.int .i64 t383)) (fun _ hk => hk.2) (.int .i64 t384)) (fun _ h_ => h_.1))) hb);have n4_:=Am (Kd.R_below (by (with_reducible repeat (first|apply Kd.R_alloc|apply Kd.R_drewN|apply Kd.R_drew));exact (Kd.R_mono (Kd.R_far (p:=⟨gb385,3,none⟩) (Kd.R_far (p:=⟨gb385,2,none⟩) (Kd.R_far (p:=⟨gb385,1,none⟩) (Kd.R_far (p:=⟨gb385,0,none⟩) (Kd.R_types HO363.out BK385.out (by decide)) (fun _ hk => hk.2) (.bool t379)) (fun _ hk => hk.2) (.slice Ao35 t380.length co35)) (fun _ hk => hk.2) (.int .i64 t383)) (fun _ hk => hk.2) (.int .i64 t384)) (fun _ h_ => h_.1))) hb);have n5_:=Am (Kd.R_below (by (with_reducible repeat (first|apply Kd.R_alloc|apply Kd.R_drewN|apply Kd.R_drew));exact (Kd.R_mono (Kd.R_far (p:=⟨gb385,3,none⟩) (Kd.R_far (p:=⟨gb385,2,none⟩) (Kd.R_far (p:=⟨gb385,1,none⟩) (Kd.R_far (p:=⟨gb385,0,none⟩) (Kd.R_types HO370.out BK385.out (by decide)) (fun _ hk => hk.2) (.bool t379)) (fun _ hk => hk.2) (.slice Ao35 t380.length co35)) (fun _ hk => hk.2) (.int .i64 t383)) (fun _ hk => hk.2) (.int .i64 t384)) (fun _ h_ => h_.1))) hb);have n6_:=Am (Kd.R_below (by (with_reducible repeat (first|apply Kd.R_alloc|apply Kd.R_drewN|apply Kd.R_drew));exact (Kd.R_mono (Kd.R_far (p:=⟨gb385,3,none⟩) (Kd.R_far (p:=⟨gb385,2,none⟩) (Kd.R_far (p:=⟨gb385,1,none⟩) (Kd.R_far (p:=⟨gb385,0,none⟩) (Kd.R_types HO375.out BK385.out (by decide)) (fun _ hk => hk.2) (.bool t379)) (fun _ hk => hk.2) (.slice Ao35 t380.length co35)) (fun _ hk => hk.2) (.int .i64 t383)) (fun _ hk => hk.2) (.int .i64 t384)) (fun _ h_ => h_.1))) hb);have n7_:=Am (Kd.R_below (by (with_reducible repeat (first|apply Kd.R_alloc|apply Kd.R_drewN|apply Kd.R_drew));exact (Kd.R_mono (Kd.R_far (p:=⟨gb385,3,none⟩) (Kd.R_far (p:=⟨gb385,2,none⟩) (Kd.R_far (p:=⟨gb385,1,none⟩) (Kd.R_far (p:=⟨gb385,0,none⟩) (Kd.R_types HO382.out BK385.out (by decide)) (fun _ hk => hk.2) (.bool t379)) (fun _ hk => hk.2) (.slice Ao35 t380.length co35)) (fun _ hk => hk.2) (.int .i64 t383)) (fun _ hk => hk.2) (.int .i64 t384)) (fun _ h_ => h_.1))) hb);have n8_:=Am (blk_below (g:=gb357) (o:=.cells #[.slice Ao10 t344.length co10,.slice Ao12 t347.length co12,.int .i64 t350,.int .i64 t351,.int .i64 t352] 26 (0,0)) (by (with_reducible repeat (first|refine kN ?_ _|refine kD ?_|refine kA ?_ _));refine blk_far ?_ NB357_385.out _;(with_reducible repeat (first|refine kN ?_ _|refine kD ?_|refine kA ?_ _));refine blk_far ?_ NB357_385.out _;(with_reducible repeat (first|refine kN ?_ _|refine kD ?_|refine kA ?_ _));refine blk_far ?_ NB357_385.out _;(with_reducible repeat (first|refine kN ?_ _|refine kD ?_|refine kA ?_ _));refine blk_far ?_ NB357_385.out _;(with_reducible repeat (first|refine kN ?_ _|refine kD ?_|refine kA ?_ _));exact BK357.out) hb);have n9_:=Am (blk_below (g:=gb371) (o:=.cells #[.slice Ao15 t358.length co15,.slice Ao18 t361.length co18,.int .i64 t364,.int .i64 t365,.int .i64 t366] 26 (0,0)) (by (with_reducible repeat (first|refine kN ?_ _|refine kD ?_|refine kA ?_ _));refine blk_far ?_ NB371_385.out _;(with_reducible repeat (first|refine kN ?_ _|refine kD ?_|refine kA ?_ _));refine blk_far ?_ NB371_385.out _;(with_reducible repeat (first|refine kN ?_ _|refine kD ?_|refine kA ?_ _));refine blk_far ?_ NB371_385.out _;(with_reducible repeat (first|refine kN ?_ _|refine kD ?_|refine kA ?_ _));refine blk_far ?_ NB371_385.out _;(with_reducible repeat (first|refine kN ?_ _|refine kD ?_|refine kA ?_ _));exact BK371.out) hb);have n10_:=Am (blk_below (g:=gb378) (o:=.cells #[.bool t372,.slice Ao26 t373.length co26,.int .i64 t376,.int .i64 t377] 31 (0,0)) (by (with_reducible repeat (first|refine kN ?_ _|refine kD ?_|refine kA ?_ _));refine blk_far ?_ NB378_385.out _;(with_reducible repeat (first|refine kN ?_ _|refine kD ?_|refine kA ?_ _));refine blk_far ?_ NB378_385.out _;(with_reducible repeat (first|refine kN ?_ _|refine kD ?_|refine kA ?_ _));refine blk_far ?_ NB378_385.out _;(with_reducible repeat (first|refine kN ?_ _|refine kD ?_|refine kA ?_ _));refine blk_far ?_ NB378_385.out _;(with_reducible repeat (first|refine kN ?_ _|refine kD ?_|refine kA ?_ _));exact BK378.out) hb);have n11_:=Am (blk_below (g:=gb385) (o:=.cells #[.bool t379,.slice Ao35 t380.length co35,.int .i64 t383,.int .i64 t384] 31 (0,0)) (by (with_reducible repeat (first|refine kN ?_ _|refine kD ?_|refine kA ?_ _));refine blk_put (cs:=#[.bool t379,.slice Ao35 t380.length co35,.int .i64 t383,.int .i64 0]) ?_ 3 _ rfl;(with_reducible repeat (first|refine kN ?_ _|refine kD ?_|refine kA ?_ _));refine blk_put (cs:=#[.bool t379,.slice Ao35 t380.length co35,.int .i64 0,.int .i64 0]) ?_ 2 _ rfl;(with_reducible repeat (first|refine kN ?_ _|refine kD ?_|refine kA ?_ _));refine blk_put (cs:=#[.bool t379,.slice none 0 0,.int .i64 0,.int .i64 0]) ?_ 1 _ rfl;(with_reducible repeat (first|refine kN ?_ _|refine kD ?_|refine kA ?_ _));refine blk_put (cs:=#[.bool false,.slice none 0 0,.int .i64 0,.int .i64 0]) ?_ 0 _ rfl;(with_reducible repeat (first|refine kN ?_ _|refine kD ?_|refine kA ?_ _));exact BK385.out) hb);have n12_:=Am (below_step (by repeat (first|(with_reducible first|exact HB.out|apply bA|apply bN|apply bD|refine bS ?_ GE357.out|refine bS ?_ GE371.out|refine bS ?_ GE378.out|refine bS ?_ GE385.out)|exact HB.out)) hb);clear HO346;clear HO349;clear HO356;clear HO360;clear HO363;clear HO370;clear HO375;clear HO382;clear BK357;clear BK371;clear BK378;clear BK385;clear HB;have HO346:=n0_;have HO349:=n1_;have HO356:=n2_;have HO360:=n3_;have HO363:=n4_;have HO370:=n5_;have HO375:=n6_;have HO382:=n7_;have BK357:=n8_;have BK371:=n9_;have BK378:=n10_;have BK385:=n11_;have HB:=n12_;clear n0_ n1_ n2_ n3_ n4_ n5_ n6_ n7_ n8_ n9_ n10_ n11_ n12_;(try clear hb);(try clear hb2);(try clear hk);(try clear hi))|(go_at_call 12;(with_reducible refine (laws_wInts.calls k _ _ t354 _ _ t368 t388 _ ?side1 ?side2 ?side3 ?side4 A43.out).mono ?_);(case side1 => repeat (first|exact (Kd.R_reads' HO356.out).2.2|(with_reducible refine Kd.C_alloc ?_ _)|(with_reducible refine Kd.C_drewN ?_ _)|(with_reducible refine Kd.C_drew ?_)));(case side2 => exact (Kd.R_reads' HO356.out).2.1);(case side3 => repeat (first|exact (Kd.R_reads' HO370.out).2.2|(with_reducible refine Kd.C_alloc ?_ _)|(with_reducible refine Kd.C_drewN ?_ _)|(with_reducible refine Kd.C_drew ?_)));(case side4 => exact (Kd.R_reads' HO370.out).2.1);rintro e w' ⟨rfl,⟨nd,rfl⟩⟩))
        go_meet
        case rel => exact ⟨_,(!t388),(by first|rfl|(simp;done)|(simp [*];done)),H',⟨by first|omega|exact Nat.le_refl _⟩,⟨by (with_reducible repeat (first|apply Kd.R_alloc|apply Kd.R_drewN|apply Kd.R_drew));exact Kd.R_mono HO346.out (fun _ hk => hk.2)⟩,⟨by (with_reducible repeat (first|apply Kd.R_alloc|apply Kd.R_drewN|apply Kd.R_drew));exact Kd.R_mono HO349.out (fun _ hk => hk.2)⟩,⟨by (with_reducible repeat (first|apply Kd.R_alloc|apply Kd.R_drewN|apply Kd.R_drew));exact Kd.R_mono HO360.out (fun _ hk => hk.2)⟩,⟨by (with_reducible repeat (first|apply Kd.R_alloc|apply Kd.R_drewN|apply Kd.R_drew));exact Kd.R_mono HO363.out (fun _ hk => hk.2)⟩,⟨by (with_reducible repeat (first|apply Kd.R_alloc|apply Kd.R_drewN|apply Kd.R_drew));exact Kd.R_mono HO375.out (fun _ hk => hk.2)⟩,⟨by (with_reducible repeat (first|apply Kd.R_alloc|apply Kd.R_drewN|apply Kd.R_drew));exact Kd.R_mono HO382.out (fun _ hk => hk.2)⟩,⟨by (with_reducible repeat (first|refine kN ?_ _|refine kD ?_|refine kA ?_ _));exact BK357.out⟩,⟨by (with_reducible repeat (first|refine kN ?_ _|refine kD ?_|refine kA ?_ _));exact BK371.out⟩,⟨by (with_reducible repeat (first|refine kN ?_ _|refine kD ?_|refine kA ?_ _));exact BK378.out⟩,⟨by (with_reducible repeat (first|refine kN ?_ _|refine kD ?_|refine kA ?_ _));exact BK385.out⟩,⟨by repeat (first|(with_reducible first|exact HB.out|apply bA|apply bN|apply bD|refine bS ?_ GE357.out|refine bS ?_ GE371.out|refine bS ?_ GE378.out|refine bS ?_ GE385.out)|exact HB.out)⟩⟩
       ·replace c42:=Bool.eq_false_iff.mpr c42
        subst c42
        have H1 : (laws_FnTop.j0 k t353 true t344 t347 t350 t351 t352 t372 t373 t376 t377) = some r:=by rw [if_neg (show ¬ (false = true) by decide)] at H;exact H
        clear H
        have H:=H1
        clear H1
        exact absurd H (by rw [hrt.out];apply laws_FnTop.j0_no)
      ·replace c40:=Bool.eq_false_iff.mpr c40
       subst c40
       have H1 : (laws_FnTop.j0 k t353 true t344 t347 t350 t351 t352 t372 t373 t376 t377) = some r:=by rw [if_neg (show ¬ (false = true) by decide)] at H;exact H
       clear H
       have H:=H1
       clear H1
       exact absurd H (by rw [hrt.out];apply laws_FnTop.j0_no)
     ·rw [if_neg c38] at H
      have c38b0 : (t377 == t384) = false:=beq_eq_false_iff_ne.mpr c38
      have c38b1 : (t377 != t384) = true:=bne_iff_ne.mpr c38
      exact absurd H (by rw [hrt.out];apply laws_FnTop.j0_no)
    ·rw [if_neg c37] at H
     have c37b0 : (t376 == t383) = false:=beq_eq_false_iff_ne.mpr c37
     have c37b1 : (t376 != t383) = true:=bne_iff_ne.mpr c37
     exact absurd H (by rw [hrt.out];apply laws_FnTop.j0_no)
  case rest =>
   clear HC7
   try clear c1
   try clear c2
   try clear c2b0
   try clear c2b1
   try clear p2
   try clear c3
   try clear c4
   try clear c5
   try clear c9
   try clear c10
   try clear c11
   try clear c16
   try clear c23
   try clear c24
   try clear c31
   try clear c32
   try clear c33
   try clear c36
   try clear c36b0
   try clear c36b1
   try clear c36b2
   try clear c37
   try clear c37b0
   try clear c37b1
   try clear c38
   try clear c38b0
   try clear c38b1
   try clear c40
   try clear c42
   try clear c44
   try clear c45
   try clear c46
   try clear c48
   try clear c49
   try clear c51
   try clear hcz11_0
   try clear hcz11_1
   try clear hcz11_2
   try clear hcz11_3
   try clear hcz11_4
   try clear hcz17_0
   try clear hcz17_1
   try clear hcz17_2
   try clear hcz17_3
   try clear hcz17_4
   try clear hcz19_0
   try clear hcz19_1
   try clear hcz19_2
   try clear hcz19_3
   try clear hcz19_4
   try clear hcz25_0
   try clear hcz25_1
   try clear hcz25_2
   try clear hcz25_3
   try clear hcz27_0
   try clear hcz27_1
   try clear hcz27_2
   try clear hcz27_3
   try clear hcz27_4
   try clear hcz34_0
   try clear hcz34_1
   try clear hcz34_2
   try clear hcz34_3
   try clear hcz47_0
   try clear hcz47_1
   try clear hcz47_2
   try clear hcz47_3
   try clear hcz50_0
   try clear hcz50_1
   try clear hcz50_2
   try clear hcz50_3
   try clear hcz52_0
   try clear hcz52_1
   try clear hcz52_2
   try clear hcz52_3
   try clear hcz52_4
   try clear hcz53_0
   try clear hcz53_1
   try clear hcz53_2
   try clear hcz53_3
   try clear hcz53_4
   try clear hfz11_0
   try clear hfz11_1
   try clear hfz11_2
   try clear hfz11_3
   try clear hfz11_4
   try clear hfz17_0
   try clear hfz17_1
   try clear hfz17_2
   try clear hfz17_3
   try clear hfz17_4
   try clear hfz19_0
   try clear hfz19_1
   try clear hfz19_2
   try clear hfz19_3
   try clear hfz19_4
   try clear hfz25_0
   try clear hfz25_1
   try clear hfz25_2
   try clear hfz25_3
   try clear hfz27_0
   try clear hfz27_1
   try clear hfz27_2
   try clear hfz27_3
   try clear hfz27_4
   try clear hfz34_0
   try clear hfz34_1
   try clear hfz34_2
   try clear hfz34_3
   try clear hfz47_0
   try clear hfz47_1
   try clear hfz47_2
   try clear hfz47_3
   try clear hfz50_0
   try clear hfz50_1
   try clear hfz50_2
   try clear hfz50_3
   try clear hfz52_0
   try clear hfz52_1
   try clear hfz52_2
   try clear hfz52_3
   try clear hfz52_4
   try clear hfz53_0
   try clear hfz53_1
   try clear hfz53_2
   try clear hfz53_3
   try clear hfz53_4
   obtain ⟨kq,x75_6,rfl,HA,HJ6,HO_358000,HO_358001,HO_372000,HO_372001,HO_379001,HO_386001,BK357,BK371,BK378,BK385,HB⟩:=hcut
   cases kq with
   | zero => exact absurd HA.out (by simp [laws_FnTop.j0])
   | succ kj6 =>
    have H:=HA.out
    clear HA
    simp only [laws_FnTop.j0] at H
    by_cases c55 : x75_6 = true
    ·subst c55
     have H1 : (some false) = some r:=by rw [if_pos rfl] at H;exact H
     clear H
     have H:=H1
     clear H1
     exact absurd H (by rw [hrt.out];simp)
    ·replace c55:=Bool.eq_false_iff.mpr c55
     subst c55
     have H1 : (laws_FnTop.l0 kj6 t353 t373 (t373.length : Int) 0 t344 t347 t350 t351 t352 t372 t373 t376 t377) = some r:=by rw [if_neg (show ¬ (false = true) by decide)] at H;exact H
     clear H
     have H:=H1
     clear H1
     have H':=Am H
     clear H
     have hnb56:=NB378_357.out
     have hnc56:=NB357_378.out
     have hnb57:=NB378_371.out
     have hnc57:=NB371_378.out
     have hnb58:=NB378_385.out
     have hnc58:=NB385_378.out
     have hcz59_0 : wc.cell? ⟨gb378,0,none⟩ = some (.bool t372):=(kC BK378.out 0).trans rfl
     have hcz59_1 : wc.cell? ⟨gb378,1,none⟩ = some (.slice Ao26 t373.length co26):=(kC BK378.out 1).trans rfl
     have hcz59_2 : wc.cell? ⟨gb378,2,none⟩ = some (.int .i64 t376):=(kC BK378.out 2).trans rfl
     have hcz59_3 : wc.cell? ⟨gb378,3,none⟩ = some (.int .i64 t377):=(kC BK378.out 3).trans rfl
     have hfz59_0:=kF BK378.out 0
     have hfz59_1:=kF BK378.out 1
     have hfz59_2:=kF BK378.out 2
     have hfz59_3:=kF BK378.out 3
     go_wp2
     go_loopg [11,80] kj6 (fun kq v11 v80 w' => ∃ (x11_2 : Int) (x80_2 : Int),v11 = .int .i64 x11_2∧v80 = .int .i64 x80_2∧As (laws_FnTop.l0 kq x11_2 t373 (t373.length : Int) x80_2 t344 t347 t350 t351 t352 t372 t373 t376 t377 = some r)∧As (kq ≤ kj6)∧As (Kd.R (Kd.int .i64) 3 w' w.heap.size (fun k_ => some k_ ≠ ((.slice Ao35 t380.length co35) : Value).ownBlock) (.slice Ao26 t373.length co26) t373)∧As (Kd.R k39 39 w' w.heap.size (fun k_ => some k_ ≠ ((.slice Ao15 t358.length co15) : Value).ownBlock) (.slice Ao10 t344.length co10) t344)∧As (Kd.R k45 45 w' w.heap.size (fun k_ => some k_ ≠ ((.slice Ao18 t361.length co18) : Value).ownBlock) (.slice Ao12 t347.length co12) t347)∧As (Kd.R k39 39 w' w.heap.size (fun k_ => some k_ ≠ ((.slice Ao10 t344.length co10) : Value).ownBlock) (.slice Ao15 t358.length co15) t358)∧As (Kd.R k45 45 w' w.heap.size (fun k_ => some k_ ≠ ((.slice Ao12 t347.length co12) : Value).ownBlock) (.slice Ao18 t361.length co18) t361)∧As (Kd.R (Kd.int .i64) 3 w' w.heap.size (fun k_ => some k_ ≠ ((.slice Ao35 t380.length co35) : Value).ownBlock) (.slice Ao26 t373.length co26) t373)∧As (Kd.R (Kd.int .i64) 3 w' w.heap.size (fun k_ => some k_ ≠ ((.slice Ao26 t373.length co26) : Value).ownBlock∧some k_ ≠ ((.slice Ao26 t373.length co26) : Value).ownBlock) (.slice Ao35 t380.length co35) t380)∧As (w'.heap[gb357]? = some (.cells #[(.slice Ao10 t344.length co10),(.slice Ao12 t347.length co12),.int .i64 t350,.int .i64 t351,.int .i64 t352] 26 (0,0)))∧As (w'.heap[gb371]? = some (.cells #[(.slice Ao15 t358.length co15),(.slice Ao18 t361.length co18),.int .i64 t364,.int .i64 t365,.int .i64 t366] 26 (0,0)))∧As (w'.heap[gb378]? = some (.cells #[.bool t372,(.slice Ao26 t373.length co26),.int .i64 t376,.int .i64 t377] 31 (0,0)))∧As (w'.heap[gb385]? = some (.cells #[.bool t379,(.slice Ao35 t380.length co35),.int .i64 t383,.int .i64 t384] 31 (0,0)))∧As (Below w.heap.size w w'))
     case atStart => exact ⟨(t353),(0),(by first|rfl|(simp;done)|(simp [*];done)),(by first|rfl|(simp;done)|(simp [*];done)),H',⟨Nat.le_refl _⟩,⟨by (with_reducible repeat (first|apply Kd.R_alloc|apply Kd.R_drewN|apply Kd.R_drew));exact HO_379001.out⟩,⟨by (with_reducible repeat (first|apply Kd.R_alloc|apply Kd.R_drewN|apply Kd.R_drew));exact HO_358000.out⟩,⟨by (with_reducible repeat (first|apply Kd.R_alloc|apply Kd.R_drewN|apply Kd.R_drew));exact HO_358001.out⟩,⟨by (with_reducible repeat (first|apply Kd.R_alloc|apply Kd.R_drewN|apply Kd.R_drew));exact HO_372000.out⟩,⟨by (with_reducible repeat (first|apply Kd.R_alloc|apply Kd.R_drewN|apply Kd.R_drew));exact HO_372001.out⟩,⟨by (with_reducible repeat (first|apply Kd.R_alloc|apply Kd.R_drewN|apply Kd.R_drew));exact HO_379001.out⟩,⟨by (with_reducible repeat (first|apply Kd.R_alloc|apply Kd.R_drewN|apply Kd.R_drew));exact Kd.R_mono HO_386001.out (fun _ hk => ⟨hk,hk⟩)⟩,⟨by (with_reducible repeat (first|refine kN ?_ _|refine kD ?_|refine kA ?_ _));exact BK357.out⟩,⟨by (with_reducible repeat (first|refine kN ?_ _|refine kD ?_|refine kA ?_ _));exact BK371.out⟩,⟨by (with_reducible repeat (first|refine kN ?_ _|refine kD ?_|refine kA ?_ _));exact BK378.out⟩,⟨by (with_reducible repeat (first|refine kN ?_ _|refine kD ?_|refine kA ?_ _));exact BK385.out⟩,⟨by repeat (first|(with_reducible first|exact HB.out|apply bA|apply bN|apply bD|refine bS ?_ GE357.out|refine bS ?_ GE371.out|refine bS ?_ GE378.out|refine bS ?_ GE385.out)|exact HB.out)⟩⟩
     case round =>
      clear H'
      try clear c1
      try clear c2
      try clear c2b0
      try clear c2b1
      try clear p2
      try clear c3
      try clear c4
      try clear c5
      try clear c9
      try clear c10
      try clear c11
      try clear c16
      try clear c23
      try clear c24
      try clear c31
      try clear c32
      try clear c33
      try clear c36
      try clear c36b0
      try clear c36b1
      try clear c36b2
      try clear c37
      try clear c37b0
      try clear c37b1
      try clear c38
      try clear c38b0
      try clear c38b1
      try clear c40
      try clear c42
      try clear c44
      try clear c45
      try clear c46
      try clear c48
      try clear c49
      try clear c51
      try clear c55
      try clear c56
      try clear c57
      try clear c58
      try clear hcz11_0
      try clear hcz11_1
      try clear hcz11_2
      try clear hcz11_3
      try clear hcz11_4
      try clear hcz17_0
      try clear hcz17_1
      try clear hcz17_2
      try clear hcz17_3
      try clear hcz17_4
      try clear hcz19_0
      try clear hcz19_1
      try clear hcz19_2
      try clear hcz19_3
      try clear hcz19_4
      try clear hcz25_0
      try clear hcz25_1
      try clear hcz25_2
      try clear hcz25_3
      try clear hcz27_0
      try clear hcz27_1
      try clear hcz27_2
      try clear hcz27_3
      try clear hcz27_4
      try clear hcz34_0
      try clear hcz34_1
      try clear hcz34_2
      try clear hcz34_3
      try clear hcz47_0
      try clear hcz47_1
      try clear hcz47_2
      try clear hcz47_3
      try clear hcz50_0
      try clear hcz50_1
      try clear hcz50_2
      try clear hcz50_3
      try clear hcz52_0
      try clear hcz52_1
      try clear hcz52_2
      try clear hcz52_3
      try clear hcz52_4
      try clear hcz53_0
      try clear hcz53_1
      try clear hcz53_2
      try clear hcz53_3
      try clear hcz53_4
      try clear hcz59_0
      try clear hcz59_1
      try clear hcz59_2
      try clear hcz59_3
      try clear hfz11_0
      try clear hfz11_1
      try clear hfz11_2
      try clear hfz11_3
      try clear hfz11_4
      try clear hfz17_0
      try clear hfz17_1
      try clear hfz17_2
      try clear hfz17_3
      try clear hfz17_4
      try clear hfz19_0
      try clear hfz19_1
      try clear hfz19_2
      try clear hfz19_3
      try clear hfz19_4
      try clear hfz25_0
      try clear hfz25_1
      try clear hfz25_2
      try clear hfz25_3
      try clear hfz27_0
      try clear hfz27_1
      try clear hfz27_2
      try clear hfz27_3
      try clear hfz27_4
      try clear hfz34_0
      try clear hfz34_1
      try clear hfz34_2
      try clear hfz34_3
      try clear hfz47_0
      try clear hfz47_1
      try clear hfz47_2
      try clear hfz47_3
      try clear hfz50_0
      try clear hfz50_1
      try clear hfz50_2
      try clear hfz50_3
      try clear hfz52_0
      try clear hfz52_1
      try clear hfz52_2
      try clear hfz52_3
      try clear hfz52_4
      try clear hfz53_0
      try clear hfz53_1
      try clear hfz53_2
      try clear hfz53_3
      try clear hfz53_4
      try clear hfz59_0
      try clear hfz59_1
      try clear hfz59_2
      try clear hfz59_3
      try clear p2
      obtain ⟨x11_2,x80_2,rfl,rfl,HA,HK2,HO_78,HO_358000,HO_358001,HO_372000,HO_372001,HO_379001,HO_386001,BK357,BK371,BK378,BK385,HB⟩:=hrel
      cases gk with
      | zero => exact absurd HA.out (by simp [laws_FnTop.l0])
      | succ k2 =>
       have H:=HA.out
       clear HA
       simp only [laws_FnTop.l0] at H
       by_cases c60 : x80_2 < (t373.length : Int)
       ·rw [if_pos c60] at H
        have c60b0 : decide (x80_2 < (t373.length : Int)) = true:=decide_eq_true c60
        clear c60
        by_cases c61 : 0 ≤ x80_2
        ·rw [if_pos c61] at H
         have c61b0 : decide (0 ≤ x80_2) = true:=decide_eq_true c61
         clear c61
         by_cases c62 : x80_2 < (t373.length : Int)
         ·rw [if_pos c62] at H
          have c62b0 : decide (x80_2 < (t373.length : Int)) = true:=decide_eq_true c62
          clear c62
          by_cases c63 : (rd t373 x80_2) < 0
          ·rw [if_pos c63] at H
           have c63b0 : decide ((rd t373 x80_2) < 0) = true:=decide_eq_true c63
           clear c63
           exact absurd H (by rw [hrt.out];simp)
          ·rw [if_neg c63] at H
           have c63b0 : decide ((rd t373 x80_2) < 0) = false:=decide_eq_false c63
           clear c63
           by_cases c64 : (wrap64 (x11_2 + (rd t373 x80_2))) > t351
           ·rw [if_pos c64] at H
            have c64b0 : decide (t351 < (wrap64 (x11_2 + (rd t373 x80_2)))) = true:=decide_eq_true c64
            clear c64
            exact absurd H (by rw [hrt.out];simp)
           ·rw [if_neg c64] at H
            have c64b0 : decide (t351 < (wrap64 (x11_2 + (rd t373 x80_2)))) = false:=decide_eq_false c64
            clear c64
            replace H:=Option.bind_eq_some_iff.mp H
            obtain ⟨t390,A650,H⟩:=H
            replace H : (if (rd t373 x80_2) > t390 then (if (rd t373 x80_2) > 0 then (some false) else (laws_FnTop.l0 k2 (wrap64 (x11_2 + (rd t373 x80_2))) t373 (t373.length : Int) (wrap64 (x80_2 + 1)) t344 t347 t350 t351 t352 t372 t373 t376 t377)) else (laws_FnTop.l0 k2 (wrap64 (x11_2 + (rd t373 x80_2))) t373 (t373.length : Int) (wrap64 (x80_2 + 1)) t344 t347 t350 t351 t352 t372 t373 t376 t377)) = some r:=H
            have A65:=Am A650
            clear A650
            by_cases c66 : (rd t373 x80_2) > t390
            ·rw [if_pos c66] at H
             have c66b0 : decide (t390 < (rd t373 x80_2)) = true:=decide_eq_true c66
             clear c66
             by_cases c67 : (rd t373 x80_2) > 0
             ·rw [if_pos c67] at H
              have c67b0 : decide (0 < (rd t373 x80_2)) = true:=decide_eq_true c67
              clear c67
              exact absurd H (by rw [hrt.out];simp)
             ·rw [if_neg c67] at H
              have c67b0 : decide (0 < (rd t373 x80_2)) = false:=decide_eq_false c67
              clear c67
              have H':=Am H
              clear H
              have p389 : 0 ≤ (x80_2 : Int):=of_decide_eq_true (by first|(with_reducible assumption)|assumption)
              have q389 : x80_2 < (t373.length : Int):=of_decide_eq_true (by first|(with_reducible assumption)|assumption)
              obtain ⟨ad389,e389,hx389_0⟩:=Kd.at_int (Kd.R_reads' HO_78.out).2.2 x80_2 p389 q389
              cases e389
              replace p389:=eq_true p389
              replace q389:=eq_true q389
              have hnb68:=NB357_371.out
              have hnc68:=NB371_357.out
              have hnb69:=NB357_378.out
              have hnc69:=NB378_357.out
              have hnb70:=NB357_385.out
              have hnc70:=NB385_357.out
              have hcz71_0 : wr.cell? ⟨gb357,0,none⟩ = some (.slice Ao10 t344.length co10):=(kC BK357.out 0).trans rfl
              have hcz71_1 : wr.cell? ⟨gb357,1,none⟩ = some (.slice Ao12 t347.length co12):=(kC BK357.out 1).trans rfl
              have hcz71_2 : wr.cell? ⟨gb357,2,none⟩ = some (.int .i64 t350):=(kC BK357.out 2).trans rfl
              have hcz71_3 : wr.cell? ⟨gb357,3,none⟩ = some (.int .i64 t351):=(kC BK357.out 3).trans rfl
              have hcz71_4 : wr.cell? ⟨gb357,4,none⟩ = some (.int .i64 t352):=(kC BK357.out 4).trans rfl
              have hfz71_0:=kF BK357.out 0
              have hfz71_1:=kF BK357.out 1
              have hfz71_2:=kF BK357.out 2
              have hfz71_3:=kF BK357.out 3
              have hfz71_4:=kF BK357.out 4
              go_wp2_with (first|(go_at_call 14;(with_reducible refine (laws_wLimit.calls k2 _ _ t344 _ _ t347 t350 t351 t352 x11_2 (wrap64 (x11_2 + (rd t373 x80_2))) t390 _ ?side1 ?side2 ?side3 ?side4 A65.out).mono ?_);(case side1 => repeat (first|exact (Kd.R_reads' HO_358000.out).2.2|(with_reducible refine Kd.C_alloc ?_ _)|(with_reducible refine Kd.C_drewN ?_ _)|(with_reducible refine Kd.C_drew ?_)));(case side2 => exact (Kd.R_reads' HO_358000.out).2.1);(case side3 => repeat (first|exact (Kd.R_reads' HO_358001.out).2.2|(with_reducible refine Kd.C_alloc ?_ _)|(with_reducible refine Kd.C_drewN ?_ _)|(with_reducible refine Kd.C_drew ?_)));(case side4 => exact (Kd.R_reads' HO_358001.out).2.1);rintro e w72 ⟨rfl,hb⟩;have n0_:=Am (Kd.R_below (by (with_reducible repeat (first|apply Kd.R_alloc|apply Kd.R_drewN|apply Kd.R_drew));exact HO_78.out) hb);have n1_:=Am (Kd.R_below (by (with_reducible repeat (first|apply Kd.R_alloc|apply Kd.R_drewN|apply Kd.R_drew));exact HO_358000.out) hb);have n2_:=Am (Kd.R_below (by (with_reducible repeat (first|apply Kd.R_alloc|apply Kd.R_drewN|apply Kd.R_drew));exact HO_358001.out) hb);have n3_:=Am (Kd.R_below (by (with_reducible repeat (first|apply Kd.R_alloc|apply Kd.R_drewN|apply Kd.R_drew));exact HO_372000.out) hb);have n4_:=Am (Kd.R_below (by (with_reducible repeat (first|apply Kd.R_alloc|apply Kd.R_drewN|apply Kd.R_drew));exact HO_372001.out) hb);have n5_:=Am (Kd.R_below (by (with_reducible repeat (first|apply Kd.R_alloc|apply Kd.R_drewN|apply Kd.R_drew));exact HO_379001.out) hb);have n6_:=Am (Kd.R_below (by (with_reducible repeat (first|apply Kd.R_alloc|apply Kd.R_drewN|apply Kd.R_drew));exact HO_386001.out) hb);have n7_:=Am (blk_below (g:=gb357) (o:=.cells #[.slice Ao10 t344.length co10,.slice Ao12 t347.length co12,.int .i64 t350,.int .i64 t351,.int .i64 t352] 26 (0,0)) (by (with_reducible repeat (first|refine kN ?_ _|refine kD ?_|refine kA ?_ _));exact BK357.out) hb);have n8_:=Am (blk_below (g:=gb371) (o:=.cells #[.slice Ao15 t358.length co15,.slice Ao18 t361.length co18,.int .i64 t364,.int .i64 t365,.int .i64 t366] 26 (0,0)) (by (with_reducible repeat (first|refine kN ?_ _|refine kD ?_|refine kA ?_ _));exact BK371.out) hb);have n9_:=Am (blk_below (g:=gb378) (o:=.cells #[.bool t372,.slice (some ad389) t373.length co26,.int .i64 t376,.int .i64 t377] 31 (0,0)) (by (with_reducible repeat (first|refine kN ?_ _|refine kD ?_|refine kA ?_ _));exact BK378.out) hb);have n10_:=Am (blk_below (g:=gb385) (o:=.cells #[.bool t379,.slice Ao35 t380.length co35,.int .i64 t383,.int .i64 t384] 31 (0,0)) (by (with_reducible repeat (first|refine kN ?_ _|refine kD ?_|refine kA ?_ _));exact BK385.out) hb);have n11_:=Am (below_step (by repeat (first|(with_reducible first|exact HB.out|apply bA|apply bN|apply bD|refine bS ?_ GE357.out|refine bS ?_ GE371.out|refine bS ?_ GE378.out|refine bS ?_ GE385.out)|exact HB.out)) hb);clear HO_78;clear HO_358000;clear HO_358001;clear HO_372000;clear HO_372001;clear HO_379001;clear HO_386001;clear BK357;clear BK371;clear BK378;clear BK385;clear HB;have HO_78:=n0_;have HO_358000:=n1_;have HO_358001:=n2_;have HO_372000:=n3_;have HO_372001:=n4_;have HO_379001:=n5_;have HO_386001:=n6_;have BK357:=n7_;have BK371:=n8_;have BK378:=n9_;have BK385:=n10_;have HB:=n11_;clear n0_ n1_ n2_ n3_ n4_ n5_ n6_ n7_ n8_ n9_ n10_ n11_;(try clear hb);(try clear hb2);(try clear hk);(try clear hi)))
              go_roundg k2
              case measure => have:=HJ6.out;have:=HK2.out;omega
              case rel => exact ⟨(wrap64 (x11_2 + (rd t373 x80_2))),(wrap64 (x80_2 + 1)),(by first|rfl|(simp;done)|(simp [*];done)),(by first|rfl|(simp;done)|(simp [*];done)),H',⟨by have:=HJ6.out;have:=HK2.out;omega⟩,⟨by (with_reducible repeat (first|apply Kd.R_alloc|apply Kd.R_drewN|apply Kd.R_drew));exact HO_78.out⟩,⟨by (with_reducible repeat (first|apply Kd.R_alloc|apply Kd.R_drewN|apply Kd.R_drew));exact HO_358000.out⟩,⟨by (with_reducible repeat (first|apply Kd.R_alloc|apply Kd.R_drewN|apply Kd.R_drew));exact HO_358001.out⟩,⟨by (with_reducible repeat (first|apply Kd.R_alloc|apply Kd.R_drewN|apply Kd.R_drew));exact HO_372000.out⟩,⟨by (with_reducible repeat (first|apply Kd.R_alloc|apply Kd.R_drewN|apply Kd.R_drew));exact HO_372001.out⟩,⟨by (with_reducible repeat (first|apply Kd.R_alloc|apply Kd.R_drewN|apply Kd.R_drew));exact HO_379001.out⟩,⟨by (with_reducible repeat (first|apply Kd.R_alloc|apply Kd.R_drewN|apply Kd.R_drew));exact HO_386001.out⟩,⟨by (with_reducible repeat (first|refine kN ?_ _|refine kD ?_|refine kA ?_ _));exact BK357.out⟩,⟨by (with_reducible repeat (first|refine kN ?_ _|refine kD ?_|refine kA ?_ _));exact BK371.out⟩,⟨by (with_reducible repeat (first|refine kN ?_ _|refine kD ?_|refine kA ?_ _));exact BK378.out⟩,⟨by (with_reducible repeat (first|refine kN ?_ _|refine kD ?_|refine kA ?_ _));exact BK385.out⟩,⟨by repeat (first|(with_reducible first|exact HB.out|apply bA|apply bN|apply bD|refine bS ?_ GE357.out|refine bS ?_ GE371.out|refine bS ?_ GE378.out|refine bS ?_ GE385.out)|exact HB.out)⟩⟩
            ·rw [if_neg c66] at H
             have c66b0 : decide (t390 < (rd t373 x80_2)) = false:=decide_eq_false c66
             clear c66
             have H':=Am H
             clear H
             have p389 : 0 ≤ (x80_2 : Int):=of_decide_eq_true (by first|(with_reducible assumption)|assumption)
             have q389 : x80_2 < (t373.length : Int):=of_decide_eq_true (by first|(with_reducible assumption)|assumption)
             obtain ⟨ad389,e389,hx389_0⟩:=Kd.at_int (Kd.R_reads' HO_78.out).2.2 x80_2 p389 q389
             cases e389
             replace p389:=eq_true p389
             replace q389:=eq_true q389
             have hnb73:=NB357_371.out
             have hnc73:=NB371_357.out
             have hnb74:=NB357_378.out
             have hnc74:=NB378_357.out
             have hnb75:=NB357_385.out
             have hnc75:=NB385_357.out
             have hcz76_0 : wr.cell? ⟨gb357,0,none⟩ = some (.slice Ao10 t344.length co10):=(kC BK357.out 0).trans rfl
             have hcz76_1 : wr.cell? ⟨gb357,1,none⟩ = some (.slice Ao12 t347.length co12):=(kC BK357.out 1).trans rfl
             have hcz76_2 : wr.cell? ⟨gb357,2,none⟩ = some (.int .i64 t350):=(kC BK357.out 2).trans rfl
             have hcz76_3 : wr.cell? ⟨gb357,3,none⟩ = some (.int .i64 t351):=(kC BK357.out 3).trans rfl
             have hcz76_4 : wr.cell? ⟨gb357,4,none⟩ = some (.int .i64 t352):=(kC BK357.out 4).trans rfl
             have hfz76_0:=kF BK357.out 0
             have hfz76_1:=kF BK357.out 1
             have hfz76_2:=kF BK357.out 2
             have hfz76_3:=kF BK357.out 3
             have hfz76_4:=kF BK357.out 4
             go_wp2_with (first|(go_at_call 14;(with_reducible refine (laws_wLimit.calls k2 _ _ t344 _ _ t347 t350 t351 t352 x11_2 (wrap64 (x11_2 + (rd t373 x80_2))) t390 _ ?side1 ?side2 ?side3 ?side4 A65.out).mono ?_);(case side1 => repeat (first|exact (Kd.R_reads' HO_358000.out).2.2|(with_reducible refine Kd.C_alloc ?_ _)|(with_reducible refine Kd.C_drewN ?_ _)|(with_reducible refine Kd.C_drew ?_)));(case side2 => exact (Kd.R_reads' HO_358000.out).2.1);(case side3 => repeat (first|exact (Kd.R_reads' HO_358001.out).2.2|(with_reducible refine Kd.C_alloc ?_ _)|(with_reducible refine Kd.C_drewN ?_ _)|(with_reducible refine Kd.C_drew ?_)));(case side4 => exact (Kd.R_reads' HO_358001.out).2.1);rintro e w77 ⟨rfl,hb⟩;have n0_:=Am (Kd.R_below (by (with_reducible repeat (first|apply Kd.R_alloc|apply Kd.R_drewN|apply Kd.R_drew));exact HO_78.out) hb);have n1_:=Am (Kd.R_below (by (with_reducible repeat (first|apply Kd.R_alloc|apply Kd.R_drewN|apply Kd.R_drew));exact HO_358000.out) hb);have n2_:=Am (Kd.R_below (by (with_reducible repeat (first|apply Kd.R_alloc|apply Kd.R_drewN|apply Kd.R_drew));exact HO_358001.out) hb);have n3_:=Am (Kd.R_below (by (with_reducible repeat (first|apply Kd.R_alloc|apply Kd.R_drewN|apply Kd.R_drew));exact HO_372000.out) hb);have n4_:=Am (Kd.R_below (by (with_reducible repeat (first|apply Kd.R_alloc|apply Kd.R_drewN|apply Kd.R_drew));exact HO_372001.out) hb);have n5_:=Am (Kd.R_below (by (with_reducible repeat (first|apply Kd.R_alloc|apply Kd.R_drewN|apply Kd.R_drew));exact HO_379001.out) hb);have n6_:=Am (Kd.R_below (by (with_reducible repeat (first|apply Kd.R_alloc|apply Kd.R_drewN|apply Kd.R_drew));exact HO_386001.out) hb);have n7_:=Am (blk_below (g:=gb357) (o:=.cells #[.slice Ao10 t344.length co10,.slice Ao12 t347.length co12,.int .i64 t350,.int .i64 t351,.int .i64 t352] 26 (0,0)) (by (with_reducible repeat (first|refine kN ?_ _|refine kD ?_|refine kA ?_ _));exact BK357.out) hb);have n8_:=Am (blk_below (g:=gb371) (o:=.cells #[.slice Ao15 t358.length co15,.slice Ao18 t361.length co18,.int .i64 t364,.int .i64 t365,.int .i64 t366] 26 (0,0)) (by (with_reducible repeat (first|refine kN ?_ _|refine kD ?_|refine kA ?_ _));exact BK371.out) hb);have n9_:=Am (blk_below (g:=gb378) (o:=.cells #[.bool t372,.slice (some ad389) t373.length co26,.int .i64 t376,.int .i64 t377] 31 (0,0)) (by (with_reducible repeat (first|refine kN ?_ _|refine kD ?_|refine kA ?_ _));exact BK378.out) hb);have n10_:=Am (blk_below (g:=gb385) (o:=.cells #[.bool t379,.slice Ao35 t380.length co35,.int .i64 t383,.int .i64 t384] 31 (0,0)) (by (with_reducible repeat (first|refine kN ?_ _|refine kD ?_|refine kA ?_ _));exact BK385.out) hb);have n11_:=Am (below_step (by repeat (first|(with_reducible first|exact HB.out|apply bA|apply bN|apply bD|refine bS ?_ GE357.out|refine bS ?_ GE371.out|refine bS ?_ GE378.out|refine bS ?_ GE385.out)|exact HB.out)) hb);clear HO_78;clear HO_358000;clear HO_358001;clear HO_372000;clear HO_372001;clear HO_379001;clear HO_386001;clear BK357;clear BK371;clear BK378;clear BK385;clear HB;have HO_78:=n0_;have HO_358000:=n1_;have HO_358001:=n2_;have HO_372000:=n3_;have HO_372001:=n4_;have HO_379001:=n5_;have HO_386001:=n6_;have BK357:=n7_;have BK371:=n8_;have BK378:=n9_;have BK385:=n10_;have HB:=n11_;clear n0_ n1_ n2_ n3_ n4_ n5_ n6_ n7_ n8_ n9_ n10_ n11_;(try clear hb);(try clear hb2);(try clear hk);(try clear hi)))
             go_roundg k2
             case measure => have:=HJ6.out;have:=HK2.out;omega
             case rel => exact ⟨(wrap64 (x11_2 + (rd t373 x80_2))),(wrap64 (x80_2 + 1)),(by first|rfl|(simp;done)|(simp [*];done)),(by first|rfl|(simp;done)|(simp [*];done)),H',⟨by have:=HJ6.out;have:=HK2.out;omega⟩,⟨by (with_reducible repeat (first|apply Kd.R_alloc|apply Kd.R_drewN|apply Kd.R_drew));exact HO_78.out⟩,⟨by (with_reducible repeat (first|apply Kd.R_alloc|apply Kd.R_drewN|apply Kd.R_drew));exact HO_358000.out⟩,⟨by (with_reducible repeat (first|apply Kd.R_alloc|apply Kd.R_drewN|apply Kd.R_drew));exact HO_358001.out⟩,⟨by (with_reducible repeat (first|apply Kd.R_alloc|apply Kd.R_drewN|apply Kd.R_drew));exact HO_372000.out⟩,⟨by (with_reducible repeat (first|apply Kd.R_alloc|apply Kd.R_drewN|apply Kd.R_drew));exact HO_372001.out⟩,⟨by (with_reducible repeat (first|apply Kd.R_alloc|apply Kd.R_drewN|apply Kd.R_drew));exact HO_379001.out⟩,⟨by (with_reducible repeat (first|apply Kd.R_alloc|apply Kd.R_drewN|apply Kd.R_drew));exact HO_386001.out⟩,⟨by (with_reducible repeat (first|refine kN ?_ _|refine kD ?_|refine kA ?_ _));exact BK357.out⟩,⟨by (with_reducible repeat (first|refine kN ?_ _|refine kD ?_|refine kA ?_ _));exact BK371.out⟩,⟨by (with_reducible repeat (first|refine kN ?_ _|refine kD ?_|refine kA ?_ _));exact BK378.out⟩,⟨by (with_reducible repeat (first|refine kN ?_ _|refine kD ?_|refine kA ?_ _));exact BK385.out⟩,⟨by repeat (first|(with_reducible first|exact HB.out|apply bA|apply bN|apply bD|refine bS ?_ GE357.out|refine bS ?_ GE371.out|refine bS ?_ GE378.out|refine bS ?_ GE385.out)|exact HB.out)⟩⟩
         ·rw [if_neg c62] at H
          exact absurd H (by simp)
        ·rw [if_neg c61] at H
         exact absurd H (by simp)
       ·rw [if_neg c60] at H
        have c60b0 : decide (x80_2 < (t373.length : Int)) = false:=decide_eq_false c60
        clear c60
        obtain rfl:=Option.some.inj H
        have hnb78:=NB378_357.out
        have hnc78:=NB357_378.out
        have hnb79:=NB378_371.out
        have hnc79:=NB371_378.out
        have hnb80:=NB378_385.out
        have hnc80:=NB385_378.out
        have hcz81_0 : wr.cell? ⟨gb378,0,none⟩ = some (.bool t372):=(kC BK378.out 0).trans rfl
        have hcz81_1 : wr.cell? ⟨gb378,1,none⟩ = some (.slice Ao26 t373.length co26):=(kC BK378.out 1).trans rfl
        have hcz81_2 : wr.cell? ⟨gb378,2,none⟩ = some (.int .i64 t376):=(kC BK378.out 2).trans rfl
        have hcz81_3 : wr.cell? ⟨gb378,3,none⟩ = some (.int .i64 t377):=(kC BK378.out 3).trans rfl
        have hfz81_0:=kF BK378.out 0
        have hfz81_1:=kF BK378.out 1
        have hfz81_2:=kF BK378.out 2
        have hfz81_3:=kF BK378.out 3
        go_wp2
        go_ret
        exact ⟨by first|rfl|(simp [errW_none,errW_some] <;> rfl)|(simp [*,errW_none,errW_some] <;> rfl),by repeat (first|(with_reducible first|exact HB.out|apply bA|apply bN|apply bD|refine bS ?_ GE357.out|refine bS ?_ GE371.out|refine bS ?_ GE378.out|refine bS ?_ GE385.out)|exact HB.out)⟩

/-- THE ONE PURE STATEMENT of laws_FnTop: yours. -/
def laws_FnTop.Pure : Prop:=∀ (l0 : List Int),l0.length ≤ maxLen → l0.length * 1 ≤ 140737488351232 → (∀ x ∈ l0,(Lit.int .u8 x).wf = true) → ∃ k,laws_FnTop.f k l0 = some true
theorem laws_FnTop.walk (P : laws_FnTop.Pure) (a0 : Option Addr) (len0 cap0 : Nat) (z0 : List Int) (w : World) (w0 : (a0 = none∧len0 = 0∧cap0 = 0∧z0 = []) ∨ ∃ x,a0 = some x∧len0 ≤ cap0∧cap0 ≤ maxLen∧z0.length = cap0∧(∀ i,i < z0.length → w.cell? (x.add i) = some (.int .u8 (z0.getD i 0)))∧∀ n ∈ z0,(Lit.int .u8 n).wf = true) (y0 : len0 * 1 ≤ 140737488351232) :
  Calls Try.prog 3 #[.slice a0 len0 cap0] w fun e w' => e = .returned (.bool true)∧Below w.heap.size w w':=by
 obtain ⟨l0,rfl,hr0,hm0,hw0,hc0⟩:=ReadsInt.ofRowC w0
 obtain ⟨k,h⟩:=P l0 hm0 y0 hw0
 refine (laws_FnTop.calls k _ _ l0 true w (Kd.C_of_reads (d:=(0 : Int)) (h1:=fun _ => rfl) hr0) hc0 ⟨rfl⟩ h).mono ?_
 rintro e w' ⟨rfl,hd⟩
 exact ⟨rfl,hd⟩

end Go.Proofs.Ytanjbdgmnecacaa.PA
