-- Written by a program of this session (wip/print/myprint.py) over the kit's print, with contracts of its own; not a text of print.sh's.
import Derived.Test.YtgakkndbcilclaaPAx0
import Derived.Test.YtgakkndbcilclaaPAx20
import Derived.Test.YtgakkndbcilclaaPAx25
import Derived.Test.YtgakkndbcilclaaPAx30
import Derived.Test.YtgakkndbcilclaaPAx31
namespace Go.Proofs.Ytgakkndbcilclaa.PA
open Go.RowKit Go.Proofs.YtgakkndbcilclaaW.PrintWords Go.Proofs.YtgakkndbcilclaaW.PrintLast Go.Proofs.YtgakkndbcilclaaW.PrintMore
attribute [local go_sem] max2_int min2_int max_two min_two   -- for this text's walks alone
set_option linter.unusedVariables false
set_option linter.unusedSimpArgs false

/-! ### spec_Watch: function 44 -/
mutual
def spec_Watch.j0 : Nat → Int → Int → List Int → Bool → List (S71) → List (S75) → Int → Int → Int → Option (Bool × List Int × Int × Int)
 | 0,_,_,_,_,_,_,_,_,_ => none
 | k + 1,x1,x2,x3,x30,x547000,x547001,x547002,x547003,x547004 => if x30 = true then (some (false,([] : List Int),0,0)) else (spec_Watch.l0 k x1 x2 x1 0 x3 (x3.length : Int) 0 x547000 x547001 x547002 x547003 x547004 true ([] : List Int) 0 0)
def spec_Watch.l0 : Nat → Int → Int → Int → Int → List Int → Int → Int → List (S71) → List (S75) → Int → Int → Int → Bool → List Int → Int → Int → Option (Bool × List Int × Int × Int)
 | 0,_,_,_,_,_,_,_,_,_,_,_,_,_,_,_,_ => none
 | k + 1,x1,x2,x10,x11,x34,x35,x36,x547000,x547001,x547002,x547003,x547004,x551000,x551001,x551002,x551003 => if x36 < x35 then (if 0 ≤ x36 then (if x36 < (x34.length : Int) then (if (rd x34 x36) ≥ 0 then (if (rd x34 x36) ≤ 10000 then ((spec_l3safe.f k x547000 x547001 x547002 x547003 x547004 x1 (rd x34 x36)).bind fun t552 => (spec_Watch.j2 k x1 x2 x10 x11 x36 (rd x34 x36) x34 x35 x36 t552 x547000 x547001 x547002 x547003 x547004 x551000 x551001 x551002 x551003)) else (spec_Watch.j2 k x1 x2 x10 x11 x36 (rd x34 x36) x34 x35 x36 false x547000 x547001 x547002 x547003 x547004 x551000 x551001 x551002 x551003)) else (spec_Watch.j2 k x1 x2 x10 x11 x36 (rd x34 x36) x34 x35 x36 false x547000 x547001 x547002 x547003 x547004 x551000 x551001 x551002 x551003)) else (none)) else (none)) else (some (x551000,x551001,x551002,x1))
def spec_Watch.j2 : Nat → Int → Int → Int → Int → Int → Int → List Int → Int → Int → Bool → List (S71) → List (S75) → Int → Int → Int → Bool → List Int → Int → Int → Option (Bool × List Int × Int × Int)
 | 0,_,_,_,_,_,_,_,_,_,_,_,_,_,_,_,_,_,_,_ => none
 | k + 1,x1,x2,x10,x11,x12,x13,x34,x35,x36,x52,x547000,x547001,x547002,x547003,x547004,x551000,x551001,x551002,x551003 => if x52 = true then (if x551001.length < 17592186044416 then (spec_Watch.l0 k (wrap64 (x1 + x13)) x13 x1 0 x34 x35 (wrap64 (x36 + 1)) x547000 x547001 x547002 x547003 x547004 x551000 (x551001 ++ [x13]) x551002 x551003) else (none)) else (if x12 > 0 then (if x11 ≥ x547004 then ((spec_l2rate.f k x547000 x547001 x547002 x547003 x547004 x10).bind fun t556 => ((spec_l2less.f x2 t556).bind fun t557 => (if x551001.length < 17592186044416 then (spec_Watch.l0 k (wrap64 (x1 + t557)) t557 x1 (wrap64 (x11 + 1)) x34 x35 (wrap64 (x36 + 1)) x547000 x547001 x547002 x547003 x547004 x551000 (x551001 ++ [t557]) (wrap64 (x551002 + 1)) x551003) else (none)))) else (if x551001.length < 17592186044416 then (spec_Watch.l0 k (wrap64 (x1 + x2)) x2 x1 (wrap64 (x11 + 1)) x34 x35 (wrap64 (x36 + 1)) x547000 x547001 x547002 x547003 x547004 x551000 (x551001 ++ [x2]) (wrap64 (x551002 + 1)) x551003) else (none))) else (if x551001.length < 17592186044416 then (spec_Watch.l0 k (wrap64 (x1 + x2)) x2 x1 x11 x34 x35 (wrap64 (x36 + 1)) x547000 x547001 x547002 x547003 x547004 x551000 (x551001 ++ [x2]) (wrap64 (x551002 + 1)) x551003) else (none)))
end
def spec_Watch.f (k : Nat) (l0_0 : List (S71)) (l0_1 : List (S75)) (a0_2 : Int) (a0_3 : Int) (a0_4 : Int) (a1 : Int) (a2 : Int) (l3 : List Int) : Option (Bool × List Int × Int × Int):=if (l3.length : Int) > 500 then (spec_Watch.j0 k a1 a2 l3 true l0_0 l0_1 a0_2 a0_3 a0_4) else ((spec_l3good.f k l0_0 l0_1 a0_2 a0_3 a0_4 a1 a2).bind fun t548 => (if t548 = true then ((spec_l3safe.f k l0_0 l0_1 a0_2 a0_3 a0_4 a1 a2).bind fun t549 => (spec_Watch.j0 k a1 a2 l3 (!t549) l0_0 l0_1 a0_2 a0_3 a0_4)) else (spec_Watch.j0 k a1 a2 l3 true l0_0 l0_1 a0_2 a0_3 a0_4)))
theorem spec_Watch.mono_l : ∀ k,(∀ y0 y1 y2 y3 y4 y5 y6 y7 y8,LeO (spec_Watch.j0 k y0 y1 y2 y3 y4 y5 y6 y7 y8) (spec_Watch.j0 (k + 1) y0 y1 y2 y3 y4 y5 y6 y7 y8))∧(∀ y0 y1 y2 y3 y4 y5 y6 y7 y8 y9 y10 y11 y12 y13 y14 y15,LeO (spec_Watch.l0 k y0 y1 y2 y3 y4 y5 y6 y7 y8 y9 y10 y11 y12 y13 y14 y15) (spec_Watch.l0 (k + 1) y0 y1 y2 y3 y4 y5 y6 y7 y8 y9 y10 y11 y12 y13 y14 y15))∧(∀ y0 y1 y2 y3 y4 y5 y6 y7 y8 y9 y10 y11 y12 y13 y14 y15 y16 y17 y18,LeO (spec_Watch.j2 k y0 y1 y2 y3 y4 y5 y6 y7 y8 y9 y10 y11 y12 y13 y14 y15 y16 y17 y18) (spec_Watch.j2 (k + 1) y0 y1 y2 y3 y4 y5 y6 y7 y8 y9 y10 y11 y12 y13 y14 y15 y16 y17 y18))
 | 0 => ⟨fun _ _ _ _ _ _ _ _ _ r h => by simp [spec_Watch.j0] at h,fun _ _ _ _ _ _ _ _ _ _ _ _ _ _ _ _ r h => by simp [spec_Watch.l0] at h,fun _ _ _ _ _ _ _ _ _ _ _ _ _ _ _ _ _ _ _ r h => by simp [spec_Watch.j2] at h⟩
 | k + 1 => by
  obtain ⟨ih0,ih1,ih2⟩:=spec_Watch.mono_l k
  refine ⟨?_,?_,?_⟩
  ·intro y0 y1 y2 y3 y4 y5 y6 y7 y8
   unfold spec_Watch.j0
   repeat' first
   | (with_reducible exact ih0 _ _ _ _ _ _ _ _ _)
   | (with_reducible exact ih1 _ _ _ _ _ _ _ _ _ _ _ _ _ _ _ _)
   | (with_reducible exact ih2 _ _ _ _ _ _ _ _ _ _ _ _ _ _ _ _ _ _ _)
   | (with_reducible exact spec_l2rate.mono _ _ _ _ _ _ _)
   | (with_reducible exact spec_l3good.mono _ _ _ _ _ _ _ _)
   | (with_reducible exact spec_l3safe.mono _ _ _ _ _ _ _ _)
   | (with_reducible exact LeO.refl _)
   | (with_reducible exact LeO.none _)
   | (with_reducible refine LeO.ite ?_ ?_)
   | (with_reducible refine LeO.bind ?_ (fun _ => ?_))
   | exact ih0 _ _ _ _ _ _ _ _ _
   | exact ih1 _ _ _ _ _ _ _ _ _ _ _ _ _ _ _ _
   | exact ih2 _ _ _ _ _ _ _ _ _ _ _ _ _ _ _ _ _ _ _
   | exact spec_l2rate.mono _ _ _ _ _ _ _
   | exact spec_l3good.mono _ _ _ _ _ _ _ _
   | exact spec_l3safe.mono _ _ _ _ _ _ _ _
   | exact LeO.none _
   | refine LeO.ite ?_ ?_
   | refine LeO.bind ?_ (fun _ => ?_)
  ·intro y0 y1 y2 y3 y4 y5 y6 y7 y8 y9 y10 y11 y12 y13 y14 y15
   unfold spec_Watch.l0
   repeat' first
   | (with_reducible exact ih0 _ _ _ _ _ _ _ _ _)
   | (with_reducible exact ih1 _ _ _ _ _ _ _ _ _ _ _ _ _ _ _ _)
   | (with_reducible exact ih2 _ _ _ _ _ _ _ _ _ _ _ _ _ _ _ _ _ _ _)
   | (with_reducible exact spec_l2rate.mono _ _ _ _ _ _ _)
   | (with_reducible exact spec_l3good.mono _ _ _ _ _ _ _ _)
   | (with_reducible exact spec_l3safe.mono _ _ _ _ _ _ _ _)
   | (with_reducible exact LeO.refl _)
   | (with_reducible exact LeO.none _)
   | (with_reducible refine LeO.ite ?_ ?_)
   | (with_reducible refine LeO.bind ?_ (fun _ => ?_))
   | exact ih0 _ _ _ _ _ _ _ _ _
   | exact ih1 _ _ _ _ _ _ _ _ _ _ _ _ _ _ _ _
   | exact ih2 _ _ _ _ _ _ _ _ _ _ _ _ _ _ _ _ _ _ _
   | exact spec_l2rate.mono _ _ _ _ _ _ _
   | exact spec_l3good.mono _ _ _ _ _ _ _ _
   | exact spec_l3safe.mono _ _ _ _ _ _ _ _
   | exact LeO.none _
   | refine LeO.ite ?_ ?_
   | refine LeO.bind ?_ (fun _ => ?_)
  ·intro y0 y1 y2 y3 y4 y5 y6 y7 y8 y9 y10 y11 y12 y13 y14 y15 y16 y17 y18
   unfold spec_Watch.j2
   repeat' first
   | (with_reducible exact ih0 _ _ _ _ _ _ _ _ _)
   | (with_reducible exact ih1 _ _ _ _ _ _ _ _ _ _ _ _ _ _ _ _)
   | (with_reducible exact ih2 _ _ _ _ _ _ _ _ _ _ _ _ _ _ _ _ _ _ _)
   | (with_reducible exact spec_l2rate.mono _ _ _ _ _ _ _)
   | (with_reducible exact spec_l3good.mono _ _ _ _ _ _ _ _)
   | (with_reducible exact spec_l3safe.mono _ _ _ _ _ _ _ _)
   | (with_reducible exact LeO.refl _)
   | (with_reducible exact LeO.none _)
   | (with_reducible refine LeO.ite ?_ ?_)
   | (with_reducible refine LeO.bind ?_ (fun _ => ?_))
   | exact ih0 _ _ _ _ _ _ _ _ _
   | exact ih1 _ _ _ _ _ _ _ _ _ _ _ _ _ _ _ _
   | exact ih2 _ _ _ _ _ _ _ _ _ _ _ _ _ _ _ _ _ _ _
   | exact spec_l2rate.mono _ _ _ _ _ _ _
   | exact spec_l3good.mono _ _ _ _ _ _ _ _
   | exact spec_l3safe.mono _ _ _ _ _ _ _ _
   | exact LeO.none _
   | refine LeO.ite ?_ ?_
   | refine LeO.bind ?_ (fun _ => ?_)
theorem spec_Watch.mono : ∀ a0 a1 a2 a3 a4 a5 a6 a7 k,LeO (spec_Watch.f k a0 a1 a2 a3 a4 a5 a6 a7) (spec_Watch.f (k + 1) a0 a1 a2 a3 a4 a5 a6 a7):=by
 intro a0 a1 a2 a3 a4 a5 a6 a7 k
 obtain ⟨ih0,ih1,ih2⟩:=spec_Watch.mono_l k
 unfold spec_Watch.f
 repeat' first
   | (with_reducible exact ih0 _ _ _ _ _ _ _ _ _)
   | (with_reducible exact ih1 _ _ _ _ _ _ _ _ _ _ _ _ _ _ _ _)
   | (with_reducible exact ih2 _ _ _ _ _ _ _ _ _ _ _ _ _ _ _ _ _ _ _)
   | (with_reducible exact spec_l2rate.mono _ _ _ _ _ _ _)
   | (with_reducible exact spec_l3good.mono _ _ _ _ _ _ _ _)
   | (with_reducible exact spec_l3safe.mono _ _ _ _ _ _ _ _)
   | (with_reducible exact LeO.refl _)
   | (with_reducible exact LeO.none _)
   | (with_reducible refine LeO.ite ?_ ?_)
   | (with_reducible refine LeO.bind ?_ (fun _ => ?_))
   | exact ih0 _ _ _ _ _ _ _ _ _
   | exact ih1 _ _ _ _ _ _ _ _ _ _ _ _ _ _ _ _
   | exact ih2 _ _ _ _ _ _ _ _ _ _ _ _ _ _ _ _ _ _ _
   | exact spec_l2rate.mono _ _ _ _ _ _ _
   | exact spec_l3good.mono _ _ _ _ _ _ _ _
   | exact spec_l3safe.mono _ _ _ _ _ _ _ _
   | exact LeO.none _
   | refine LeO.ite ?_ ?_
   | refine LeO.bind ?_ (fun _ => ?_)
set_option maxHeartbeats 8000000 in
set_option maxRecDepth 100000 in
theorem spec_Watch.calls (k : Nat) (A0_0 : Option Addr) (c0_0 : Nat) (l0_0 : List (S71)) (A0_1 : Option Addr) (c0_1 : Nat) (l0_1 : List (S75)) (a0_2 : Int) (a0_3 : Int) (a0_4 : Int) (a1 : Int) (a2 : Int) (A3 : Option Addr) (c3 : Nat) (l3 : List Int) (r1 : Bool) (r2 : List Int) (r3 : Int) (r4 : Int) (w : World) (hr0_0 : Kd.C k71 w A0_0 l0_0.length l0_0) (hc0_0 : l0_0.length ≤ c0_0) (hr0_1 : Kd.C k75 w A0_1 l0_1.length l0_1) (hc0_1 : l0_1.length ≤ c0_1) (hr3 : Kd.C (Kd.int .i64) w A3 l3.length l3) (hc3 : l3.length ≤ c3) (h : spec_Watch.f k l0_0 l0_1 a0_2 a0_3 a0_4 a1 a2 l3 = some (r1,r2,r3,r4)) :
  Calls Try.prog 44 #[.agg #[.slice A0_0 l0_0.length c0_0,.slice A0_1 l0_1.length c0_1,.int .i64 a0_2,.int .i64 a0_3,.int .i64 a0_4],.int .i64 a1,.int .i64 a2,.slice A3 l3.length c3] w fun e w' => ∃ v1_ : Value,e = .returned (.agg #[.bool r1,v1_,.int .i64 r3,.int .i64 r4])∧Kd.R (Kd.int .i64) 3 w' w.heap.size (fun _ => True) v1_ r2∧Below w.heap.size w w':=by
 have hu31:=Try.underlying31
 have hu56:=Try.underlying56
 have HR0_0:=Am hr0_0
 have HC0_0:=Am hc0_0
 clear hr0_0 hc0_0
 have HR0_1:=Am hr0_1
 have HC0_1:=Am hc0_1
 clear hr0_1 hc0_1
 have HR3:=Am hr3
 have HC3:=Am hc3
 clear hr3 hc3
 have HB:=Am (Below.refl w.heap.size w)
 have H : (if (l3.length : Int) > 500 then (spec_Watch.j0 k a1 a2 l3 true l0_0 l0_1 a0_2 a0_3 a0_4) else ((spec_l3good.f k l0_0 l0_1 a0_2 a0_3 a0_4 a1 a2).bind fun t548 => (if t548 = true then ((spec_l3safe.f k l0_0 l0_1 a0_2 a0_3 a0_4 a1 a2).bind fun t549 => (spec_Watch.j0 k a1 a2 l3 (!t549) l0_0 l0_1 a0_2 a0_3 a0_4)) else (spec_Watch.j0 k a1 a2 l3 true l0_0 l0_1 a0_2 a0_3 a0_4)))) = some (r1,r2,r3,r4):=h
 clear h
 have HC5:=Am H
 clear H
 go_enter Try.func44,Try.ntmps44
 go_upto_region 1 with (first|((with_reducible refine gate_dst (N:=4) rfl ?_);refine box_event ?hg (N:=4) ?hd (cs:=#[.slice A0_0 l0_0.length c0_0,.slice A0_1 l0_1.length c0_1,.int .i64 a0_2,.int .i64 a0_3,.int .i64 a0_4]) (t:=31) ?hr ?_;(case hd => rfl);(case hg => rfl);(case hr => first|(go_simp;done)|(go_simp;rfl));intro gb546 hg w6 hbox hb;have n0_:=Am (below_step (by repeat (first|(with_reducible first|exact HB.out|apply bA|apply bN|apply bD)|exact HB.out)) hb);have n1_:=Am (hbox);have n2_:=Am ((by rw [hg];exact (below_size (by repeat (first|(with_reducible first|exact HB.out|apply bA|apply bN|apply bD)|exact HB.out))) : w.heap.size ≤ gb546));have n3_:=Am ((by rw [hg];exact (below_size (by repeat (first|(with_reducible first|exact HB.out|apply bA|apply bN|apply bD)|exact HB.out))) : w.heap.size ≤ gb546));clear HB;have HB:=n0_;have BK546:=n1_;have GW546:=n2_;have GE546:=n3_;clear n0_ n1_ n2_ n3_;clear hb hbox hg)|((with_reducible refine gate_dst (N:=8) rfl ?_);refine box_event ?hg (N:=8) ?hd (cs:=#[.bool false,.slice none 0 0,.int .i64 0,.int .i64 0]) (t:=56) ?hr ?_;(case hd => rfl);(case hg => rfl);(case hr => first|(go_simp;done)|(go_simp;rfl));intro gb547 hg w7 hbox hb;have n0_:=Am (blk_below (g:=gb546) (o:=.cells #[.slice A0_0 l0_0.length c0_0,.slice A0_1 l0_1.length c0_1,.int .i64 a0_2,.int .i64 a0_3,.int .i64 a0_4] 31 (0,0)) (by (with_reducible repeat (first|refine kN ?_ _|refine kD ?_|refine kA ?_ _));exact BK546.out) hb);have n1_:=Am (below_step (by repeat (first|(with_reducible first|exact HB.out|apply bA|apply bN|apply bD|refine bS ?_ GE546.out)|exact HB.out)) hb);have n2_:=Am (hbox);have n3_:=Am ((by rw [hg];exact (below_size (by repeat (first|(with_reducible first|exact HB.out|apply bA|apply bN|apply bD|refine bS ?_ GE546.out)|exact HB.out))) : w.heap.size ≤ gb547));have n4_:=Am ((by rw [hg];exact (below_size (by repeat (first|(with_reducible first|exact HB.out|apply bA|apply bN|apply bD|refine bS ?_ GE546.out)|exact HB.out))) : w.heap.size ≤ gb547));have n5_:=Am ((by rw [hg];exact Nat.ne_of_lt (blk_lt (g:=gb546) (o:=.cells #[.slice A0_0 l0_0.length c0_0,.slice A0_1 l0_1.length c0_1,.int .i64 a0_2,.int .i64 a0_3,.int .i64 a0_4] 31 (0,0)) (by (with_reducible repeat (first|refine kN ?_ _|refine kD ?_|refine kA ?_ _));exact BK546.out)) : gb546 ≠ gb547));have n6_:=Am ((by rw [hg];exact Nat.ne_of_gt (blk_lt (g:=gb546) (o:=.cells #[.slice A0_0 l0_0.length c0_0,.slice A0_1 l0_1.length c0_1,.int .i64 a0_2,.int .i64 a0_3,.int .i64 a0_4] 31 (0,0)) (by (with_reducible repeat (first|refine kN ?_ _|refine kD ?_|refine kA ?_ _));exact BK546.out)) : gb547 ≠ gb546));clear BK546;clear HB;have BK546:=n0_;have HB:=n1_;have BK547:=n2_;have GW547:=n3_;have GE547:=n4_;have NB546_547:=n5_;have NB547_546:=n6_;clear n0_ n1_ n2_ n3_ n4_ n5_ n6_;clear hb hbox hg))
 (try simp only [Act.put,List.setIfInBounds_toArray,List.set_cons_zero,List.set_cons_succ])
 go_cut [30] (fun v30 wc => ∃ (kq : Nat) (x30_4 : Bool),v30 = .bool x30_4∧As (spec_Watch.j0 kq a1 a2 l3 x30_4 l0_0 l0_1 a0_2 a0_3 a0_4 = some (r1,r2,r3,r4))∧As (kq ≤ k)∧As (wc.heap[gb546]? = some (.cells #[(.slice A0_0 l0_0.length c0_0),(.slice A0_1 l0_1.length c0_1),.int .i64 a0_2,.int .i64 a0_3,.int .i64 a0_4] 31 (0,0)))∧As (wc.heap[gb547]? = some (.cells #[.bool false,(.slice none 0 0),.int .i64 0,.int .i64 0] 56 (0,0)))∧As (Below w.heap.size w wc))
 case first =>
  have H:=HC5.out
  clear HC5
  by_cases c8 : (l3.length : Int) > 500
  ·rw [if_pos c8] at H
   have c8b0 : decide (500 < (l3.length : Int)) = true:=decide_eq_true c8
   have c8b1 : decide (500 < l3.length) = true:=decide_eq_true (by omega)
   clear c8
   (first|rw [c8b0]|(simp only [i64_w,i32_w];rw [c8b0])|skip)
   have H':=Am H
   clear H
   go_wp2
   go_meet
   case rel => exact ⟨_,(true),(by first|rfl|(simp;done)|(simp [*];done)),H',⟨by first|omega|exact Nat.le_refl _⟩,⟨by (with_reducible repeat (first|refine kN ?_ _|refine kD ?_|refine kA ?_ _));exact BK546.out⟩,⟨by (with_reducible repeat (first|refine kN ?_ _|refine kD ?_|refine kA ?_ _));exact BK547.out⟩,⟨by repeat (first|(with_reducible first|exact HB.out|apply bA|apply bN|apply bD|refine bS ?_ GE546.out|refine bS ?_ GE547.out)|exact HB.out)⟩⟩
  ·rw [if_neg c8] at H
   have c8b0 : decide (500 < (l3.length : Int)) = false:=decide_eq_false c8
   have c8b1 : decide (500 < l3.length) = false:=decide_eq_false (by omega)
   clear c8
   (first|rw [c8b0]|(simp only [i64_w,i32_w];rw [c8b0])|skip)
   replace H:=Option.bind_eq_some_iff.mp H
   obtain ⟨t548,A90,H⟩:=H
   replace H : (if t548 = true then ((spec_l3safe.f k l0_0 l0_1 a0_2 a0_3 a0_4 a1 a2).bind fun t549 => (spec_Watch.j0 k a1 a2 l3 (!t549) l0_0 l0_1 a0_2 a0_3 a0_4)) else (spec_Watch.j0 k a1 a2 l3 true l0_0 l0_1 a0_2 a0_3 a0_4)) = some (r1,r2,r3,r4):=H
   have A9:=Am A90
   clear A90
   by_cases c10 : t548 = true
   ·subst c10
    have H1 : ((spec_l3safe.f k l0_0 l0_1 a0_2 a0_3 a0_4 a1 a2).bind fun t549 => (spec_Watch.j0 k a1 a2 l3 (!t549) l0_0 l0_1 a0_2 a0_3 a0_4)) = some (r1,r2,r3,r4):=by rw [if_pos rfl] at H;exact H
    clear H
    have H:=H1
    clear H1
    replace H:=Option.bind_eq_some_iff.mp H
    obtain ⟨t549,A110,H⟩:=H
    replace H : (spec_Watch.j0 k a1 a2 l3 (!t549) l0_0 l0_1 a0_2 a0_3 a0_4) = some (r1,r2,r3,r4):=H
    have A11:=Am A110
    clear A110
    have H':=Am H
    clear H
    have hnb12:=NB546_547.out
    have hnc12:=NB547_546.out
    have hcz13_0 : w7.cell? ⟨gb546,0,none⟩ = some (.slice A0_0 l0_0.length c0_0):=(kC BK546.out 0).trans rfl
    have hcz13_1 : w7.cell? ⟨gb546,1,none⟩ = some (.slice A0_1 l0_1.length c0_1):=(kC BK546.out 1).trans rfl
    have hcz13_2 : w7.cell? ⟨gb546,2,none⟩ = some (.int .i64 a0_2):=(kC BK546.out 2).trans rfl
    have hcz13_3 : w7.cell? ⟨gb546,3,none⟩ = some (.int .i64 a0_3):=(kC BK546.out 3).trans rfl
    have hcz13_4 : w7.cell? ⟨gb546,4,none⟩ = some (.int .i64 a0_4):=(kC BK546.out 4).trans rfl
    have hfz13_0:=kF BK546.out 0
    have hfz13_1:=kF BK546.out 1
    have hfz13_2:=kF BK546.out 2
    have hfz13_3:=kF BK546.out 3
    have hfz13_4:=kF BK546.out 4
    go_wp2_with (first|(go_at_call 76;(with_reducible refine (spec_l3good.calls k _ _ l0_0 _ _ l0_1 a0_2 a0_3 a0_4 a1 a2 true _ ?side1 ?side2 ?side3 ?side4 A9.out).mono ?_);(case side1 => repeat (first|exact (Kd.C_below HR0_0.out HB.out)|(with_reducible refine Kd.C_alloc ?_ _)|(with_reducible refine Kd.C_drewN ?_ _)|(with_reducible refine Kd.C_drew ?_)));(case side2 => exact HC0_0.out);(case side3 => repeat (first|exact (Kd.C_below HR0_1.out HB.out)|(with_reducible refine Kd.C_alloc ?_ _)|(with_reducible refine Kd.C_drewN ?_ _)|(with_reducible refine Kd.C_drew ?_)));(case side4 => exact HC0_1.out);rintro e w14 ⟨rfl,hb⟩;have n0_:=Am (blk_below (g:=gb546) (o:=.cells #[.slice A0_0 l0_0.length c0_0,.slice A0_1 l0_1.length c0_1,.int .i64 a0_2,.int .i64 a0_3,.int .i64 a0_4] 31 (0,0)) (by (with_reducible repeat (first|refine kN ?_ _|refine kD ?_|refine kA ?_ _));exact BK546.out) hb);have n1_:=Am (blk_below (g:=gb547) (o:=.cells #[.bool false,.slice none 0 0,.int .i64 0,.int .i64 0] 56 (0,0)) (by (with_reducible repeat (first|refine kN ?_ _|refine kD ?_|refine kA ?_ _));exact BK547.out) hb);have n2_:=Am (below_step (by repeat (first|(with_reducible first|exact HB.out|apply bA|apply bN|apply bD|refine bS ?_ GE546.out|refine bS ?_ GE547.out)|exact HB.out)) hb);clear BK546;clear BK547;clear HB;have BK546:=n0_;have BK547:=n1_;have HB:=n2_;clear n0_ n1_ n2_;(try clear hb);(try clear hb2);(try clear hk);(try clear hi);have hcz15_0 : w14.cell? ⟨gb546,0,none⟩ = some (.slice A0_0 l0_0.length c0_0):=(kC BK546.out 0).trans rfl;have hcz15_1 : w14.cell? ⟨gb546,1,none⟩ = some (.slice A0_1 l0_1.length c0_1):=(kC BK546.out 1).trans rfl;have hcz15_2 : w14.cell? ⟨gb546,2,none⟩ = some (.int .i64 a0_2):=(kC BK546.out 2).trans rfl;have hcz15_3 : w14.cell? ⟨gb546,3,none⟩ = some (.int .i64 a0_3):=(kC BK546.out 3).trans rfl;have hcz15_4 : w14.cell? ⟨gb546,4,none⟩ = some (.int .i64 a0_4):=(kC BK546.out 4).trans rfl;have hfz15_0:=kF BK546.out 0;have hfz15_1:=kF BK546.out 1;have hfz15_2:=kF BK546.out 2;have hfz15_3:=kF BK546.out 3;have hfz15_4:=kF BK546.out 4)|(go_at_call 77;(with_reducible refine (spec_l3safe.calls k _ _ l0_0 _ _ l0_1 a0_2 a0_3 a0_4 a1 a2 t549 _ ?side1 ?side2 ?side3 ?side4 A11.out).mono ?_);(case side1 => repeat (first|exact (Kd.C_below HR0_0.out HB.out)|(with_reducible refine Kd.C_alloc ?_ _)|(with_reducible refine Kd.C_drewN ?_ _)|(with_reducible refine Kd.C_drew ?_)));(case side2 => exact HC0_0.out);(case side3 => repeat (first|exact (Kd.C_below HR0_1.out HB.out)|(with_reducible refine Kd.C_alloc ?_ _)|(with_reducible refine Kd.C_drewN ?_ _)|(with_reducible refine Kd.C_drew ?_)));(case side4 => exact HC0_1.out);rintro e w16 ⟨rfl,hb⟩;have n0_:=Am (blk_below (g:=gb546) (o:=.cells #[.slice A0_0 l0_0.length c0_0,.slice A0_1 l0_1.length c0_1,.int .i64 a0_2,.int .i64 a0_3,.int .i64 a0_4] 31 (0,0)) (by (with_reducible repeat (first|refine kN ?_ _|refine kD ?_|refine kA ?_ _));exact BK546.out) hb);have n1_:=Am (blk_below (g:=gb547) (o:=.cells #[.bool false,.slice none 0 0,.int .i64 0,.int .i64 0] 56 (0,0)) (by (with_reducible repeat (first|refine kN ?_ _|refine kD ?_|refine kA ?_ _));exact BK547.out) hb);have n2_:=Am (below_step (by repeat (first|(with_reducible first|exact HB.out|apply bA|apply bN|apply bD|refine bS ?_ GE546.out|refine bS ?_ GE547.out)|exact HB.out)) hb);clear BK546;clear BK547;clear HB;have BK546:=n0_;have BK547:=n1_;have HB:=n2_;clear n0_ n1_ n2_;(try clear hb);(try clear hb2);(try clear hk);(try clear hi)))
    go_meet
    case rel => exact ⟨_,(!t549),(by first|rfl|(simp;done)|(simp [*];done)),H',⟨by first|omega|exact Nat.le_refl _⟩,⟨by (with_reducible repeat (first|refine kN ?_ _|refine kD ?_|refine kA ?_ _));exact BK546.out⟩,⟨by (with_reducible repeat (first|refine kN ?_ _|refine kD ?_|refine kA ?_ _));exact BK547.out⟩,⟨by repeat (first|(with_reducible first|exact HB.out|apply bA|apply bN|apply bD|refine bS ?_ GE546.out|refine bS ?_ GE547.out)|exact HB.out)⟩⟩
   ·replace c10:=Bool.eq_false_iff.mpr c10
    subst c10
    have H1 : (spec_Watch.j0 k a1 a2 l3 true l0_0 l0_1 a0_2 a0_3 a0_4) = some (r1,r2,r3,r4):=by rw [if_neg (show ¬ (false = true) by decide)] at H;exact H
    clear H
    have H:=H1
    clear H1
    have H':=Am H
    clear H
    have hnb17:=NB546_547.out
    have hnc17:=NB547_546.out
    have hcz18_0 : w7.cell? ⟨gb546,0,none⟩ = some (.slice A0_0 l0_0.length c0_0):=(kC BK546.out 0).trans rfl
    have hcz18_1 : w7.cell? ⟨gb546,1,none⟩ = some (.slice A0_1 l0_1.length c0_1):=(kC BK546.out 1).trans rfl
    have hcz18_2 : w7.cell? ⟨gb546,2,none⟩ = some (.int .i64 a0_2):=(kC BK546.out 2).trans rfl
    have hcz18_3 : w7.cell? ⟨gb546,3,none⟩ = some (.int .i64 a0_3):=(kC BK546.out 3).trans rfl
    have hcz18_4 : w7.cell? ⟨gb546,4,none⟩ = some (.int .i64 a0_4):=(kC BK546.out 4).trans rfl
    have hfz18_0:=kF BK546.out 0
    have hfz18_1:=kF BK546.out 1
    have hfz18_2:=kF BK546.out 2
    have hfz18_3:=kF BK546.out 3
    have hfz18_4:=kF BK546.out 4
    go_wp2_with (first|(go_at_call 76;(with_reducible refine (spec_l3good.calls k _ _ l0_0 _ _ l0_1 a0_2 a0_3 a0_4 a1 a2 false _ ?side1 ?side2 ?side3 ?side4 A9.out).mono ?_);(case side1 => repeat (first|exact (Kd.C_below HR0_0.out HB.out)|(with_reducible refine Kd.C_alloc ?_ _)|(with_reducible refine Kd.C_drewN ?_ _)|(with_reducible refine Kd.C_drew ?_)));(case side2 => exact HC0_0.out);(case side3 => repeat (first|exact (Kd.C_below HR0_1.out HB.out)|(with_reducible refine Kd.C_alloc ?_ _)|(with_reducible refine Kd.C_drewN ?_ _)|(with_reducible refine Kd.C_drew ?_)));(case side4 => exact HC0_1.out);rintro e w19 ⟨rfl,hb⟩;have n0_:=Am (blk_below (g:=gb546) (o:=.cells #[.slice A0_0 l0_0.length c0_0,.slice A0_1 l0_1.length c0_1,.int .i64 a0_2,.int .i64 a0_3,.int .i64 a0_4] 31 (0,0)) (by (with_reducible repeat (first|refine kN ?_ _|refine kD ?_|refine kA ?_ _));exact BK546.out) hb);have n1_:=Am (blk_below (g:=gb547) (o:=.cells #[.bool false,.slice none 0 0,.int .i64 0,.int .i64 0] 56 (0,0)) (by (with_reducible repeat (first|refine kN ?_ _|refine kD ?_|refine kA ?_ _));exact BK547.out) hb);have n2_:=Am (below_step (by repeat (first|(with_reducible first|exact HB.out|apply bA|apply bN|apply bD|refine bS ?_ GE546.out|refine bS ?_ GE547.out)|exact HB.out)) hb);clear BK546;clear BK547;clear HB;have BK546:=n0_;have BK547:=n1_;have HB:=n2_;clear n0_ n1_ n2_;(try clear hb);(try clear hb2);(try clear hk);(try clear hi)))
    go_meet
    case rel => exact ⟨_,(true),(by first|rfl|(simp;done)|(simp [*];done)),H',⟨by first|omega|exact Nat.le_refl _⟩,⟨by (with_reducible repeat (first|refine kN ?_ _|refine kD ?_|refine kA ?_ _));exact BK546.out⟩,⟨by (with_reducible repeat (first|refine kN ?_ _|refine kD ?_|refine kA ?_ _));exact BK547.out⟩,⟨by repeat (first|(with_reducible first|exact HB.out|apply bA|apply bN|apply bD|refine bS ?_ GE546.out|refine bS ?_ GE547.out)|exact HB.out)⟩⟩
 case rest =>
  clear HC5
  try clear c1
  try clear p2
  try clear c3
  try clear c4
  try clear c8
  try clear c8b0
  try clear c8b1
  try clear c10
  try clear c12
  try clear c17
  try clear hcz13_0
  try clear hcz13_1
  try clear hcz13_2
  try clear hcz13_3
  try clear hcz13_4
  try clear hcz15_0
  try clear hcz15_1
  try clear hcz15_2
  try clear hcz15_3
  try clear hcz15_4
  try clear hcz18_0
  try clear hcz18_1
  try clear hcz18_2
  try clear hcz18_3
  try clear hcz18_4
  try clear hfz13_0
  try clear hfz13_1
  try clear hfz13_2
  try clear hfz13_3
  try clear hfz13_4
  try clear hfz15_0
  try clear hfz15_1
  try clear hfz15_2
  try clear hfz15_3
  try clear hfz15_4
  try clear hfz18_0
  try clear hfz18_1
  try clear hfz18_2
  try clear hfz18_3
  try clear hfz18_4
  obtain ⟨kq,x30_4,rfl,HA,HJ4,BK546,BK547,HB⟩:=hcut
  cases kq with
  | zero => exact absurd HA.out (by simp [spec_Watch.j0])
  | succ kj4 =>
   have H:=HA.out
   clear HA
   simp only [spec_Watch.j0] at H
   by_cases c20 : x30_4 = true
   ·subst c20
    have H1 : (some (false,([] : List Int),0,0)) = some (r1,r2,r3,r4):=by rw [if_pos rfl] at H;exact H
    clear H
    have H:=H1
    clear H1
    simp only [Option.some.injEq,Prod.mk.injEq] at H
    obtain ⟨rfl,rfl,rfl,rfl⟩:=H
    have hnb21:=NB547_546.out
    have hnc21:=NB546_547.out
    have hcz22_0 : wc.cell? ⟨gb547,0,none⟩ = some (.bool false):=(kC BK547.out 0).trans rfl
    have hcz22_1 : wc.cell? ⟨gb547,1,none⟩ = some (.slice none 0 0):=(kC BK547.out 1).trans rfl
    have hcz22_2 : wc.cell? ⟨gb547,2,none⟩ = some (.int .i64 0):=(kC BK547.out 2).trans rfl
    have hcz22_3 : wc.cell? ⟨gb547,3,none⟩ = some (.int .i64 0):=(kC BK547.out 3).trans rfl
    have hfz22_0:=kF BK547.out 0
    have hfz22_1:=kF BK547.out 1
    have hfz22_2:=kF BK547.out 2
    have hfz22_3:=kF BK547.out 3
    go_wp2
    refine bodyPost_ret (results_cell_row rfl _ _ gb547 56 #[.bool false,.slice none 0 0,.int .i64 0,.int .i64 0] (0,0) _ rfl (by (with_reducible repeat (first|refine kN ?_ _|refine kD ?_|refine kA ?_ _));refine blk_put (cs:=#[.bool false,.slice none 0 0,.int .i64 0,.int .i64 0]) ?_ 3 _ rfl;(with_reducible repeat (first|refine kN ?_ _|refine kD ?_|refine kA ?_ _));refine blk_put (cs:=#[.bool false,.slice none 0 0,.int .i64 0,.int .i64 0]) ?_ 2 _ rfl;(with_reducible repeat (first|refine kN ?_ _|refine kD ?_|refine kA ?_ _));refine blk_put (cs:=#[.bool false,.slice none 0 0,.int .i64 0,.int .i64 0]) ?_ 1 _ rfl;(with_reducible repeat (first|refine kN ?_ _|refine kD ?_|refine kA ?_ _));refine blk_put (cs:=#[.bool false,.slice none 0 0,.int .i64 0,.int .i64 0]) ?_ 0 _ rfl;(with_reducible repeat (first|refine kN ?_ _|refine kD ?_|refine kA ?_ _));exact BK547.out) Try.underlying56 rfl (by kernel_rfl)) rfl ?_
    exact ⟨_,by first|rfl|(simp [errW_none,errW_some] <;> rfl)|(simp [*,errW_none,errW_some] <;> rfl),by first|exact Kd.R_nil _ _ _ _ _|exact Kd.N_nil _ _ _ _ _|exact Kd.V_nil _ _ _ _ _|exact Kd.Q_nil _ _ _ _ _|exact Kd.S_nil _ _ _ _ _,by repeat (first|(with_reducible first|exact HB.out|apply bA|apply bN|apply bD|refine bS ?_ GE546.out|refine bS ?_ GE547.out)|exact HB.out)⟩
   ·replace c20:=Bool.eq_false_iff.mpr c20
    subst c20
    have H1 : (spec_Watch.l0 kj4 a1 a2 a1 0 l3 (l3.length : Int) 0 l0_0 l0_1 a0_2 a0_3 a0_4 true ([] : List Int) 0 0) = some (r1,r2,r3,r4):=by rw [if_neg (show ¬ (false = true) by decide)] at H;exact H
    clear H
    have H:=H1
    clear H1
    have H':=Am H
    clear H
    go_wp2_with (first|((with_reducible refine gate_dst (N:=9) rfl ?_);refine box_event ?hg (N:=9) ?hd (cs:=#[.bool false,.slice none 0 0,.int .i64 0,.int .i64 0]) (t:=56) ?hr ?_;(case hd => rfl);(case hg => rfl);(case hr => first|(go_simp;done)|(go_simp;rfl));intro gb550 hg w23 hbox hb;have n0_:=Am (blk_below (g:=gb546) (o:=.cells #[.slice A0_0 l0_0.length c0_0,.slice A0_1 l0_1.length c0_1,.int .i64 a0_2,.int .i64 a0_3,.int .i64 a0_4] 31 (0,0)) (by (with_reducible repeat (first|refine kN ?_ _|refine kD ?_|refine kA ?_ _));exact BK546.out) hb);have n1_:=Am (blk_below (g:=gb547) (o:=.cells #[.bool false,.slice none 0 0,.int .i64 0,.int .i64 0] 56 (0,0)) (by (with_reducible repeat (first|refine kN ?_ _|refine kD ?_|refine kA ?_ _));exact BK547.out) hb);have n2_:=Am (below_step (by repeat (first|(with_reducible first|exact HB.out|apply bA|apply bN|apply bD|refine bS ?_ GE546.out|refine bS ?_ GE547.out)|exact HB.out)) hb);have n3_:=Am (hbox);have n4_:=Am ((by rw [hg];exact (below_size (by repeat (first|(with_reducible first|exact HB.out|apply bA|apply bN|apply bD|refine bS ?_ GE546.out|refine bS ?_ GE547.out)|exact HB.out))) : w.heap.size ≤ gb550));have n5_:=Am ((by rw [hg];exact (below_size (by repeat (first|(with_reducible first|exact HB.out|apply bA|apply bN|apply bD|refine bS ?_ GE546.out|refine bS ?_ GE547.out)|exact HB.out))) : w.heap.size ≤ gb550));have n6_:=Am ((by rw [hg];exact Nat.ne_of_lt (blk_lt (g:=gb546) (o:=.cells #[.slice A0_0 l0_0.length c0_0,.slice A0_1 l0_1.length c0_1,.int .i64 a0_2,.int .i64 a0_3,.int .i64 a0_4] 31 (0,0)) (by (with_reducible repeat (first|refine kN ?_ _|refine kD ?_|refine kA ?_ _));exact BK546.out)) : gb546 ≠ gb550));have n7_:=Am ((by rw [hg];exact Nat.ne_of_gt (blk_lt (g:=gb546) (o:=.cells #[.slice A0_0 l0_0.length c0_0,.slice A0_1 l0_1.length c0_1,.int .i64 a0_2,.int .i64 a0_3,.int .i64 a0_4] 31 (0,0)) (by (with_reducible repeat (first|refine kN ?_ _|refine kD ?_|refine kA ?_ _));exact BK546.out)) : gb550 ≠ gb546));have n8_:=Am ((by rw [hg];exact Nat.ne_of_lt (blk_lt (g:=gb547) (o:=.cells #[.bool false,.slice none 0 0,.int .i64 0,.int .i64 0] 56 (0,0)) (by (with_reducible repeat (first|refine kN ?_ _|refine kD ?_|refine kA ?_ _));exact BK547.out)) : gb547 ≠ gb550));have n9_:=Am ((by rw [hg];exact Nat.ne_of_gt (blk_lt (g:=gb547) (o:=.cells #[.bool false,.slice none 0 0,.int .i64 0,.int .i64 0] 56 (0,0)) (by (with_reducible repeat (first|refine kN ?_ _|refine kD ?_|refine kA ?_ _));exact BK547.out)) : gb550 ≠ gb547));clear BK546;clear BK547;clear HB;have BK546:=n0_;have BK547:=n1_;have HB:=n2_;have BK550:=n3_;have GW550:=n4_;have GE550:=n5_;have NB546_550:=n6_;have NB550_546:=n7_;have NB547_550:=n8_;have NB550_547:=n9_;clear n0_ n1_ n2_ n3_ n4_ n5_ n6_ n7_ n8_ n9_;clear hb hbox hg;have hnb24:=NB550_546.out;have hnc24:=NB546_550.out;have hnb25:=NB550_547.out;have hnc25:=NB547_550.out;have hcz26_0 : w23.cell? ⟨gb550,0,none⟩ = some (.bool false):=(kC BK550.out 0).trans rfl;have hcz26_1 : w23.cell? ⟨gb550,1,none⟩ = some (.slice none 0 0):=(kC BK550.out 1).trans rfl;have hcz26_2 : w23.cell? ⟨gb550,2,none⟩ = some (.int .i64 0):=(kC BK550.out 2).trans rfl;have hcz26_3 : w23.cell? ⟨gb550,3,none⟩ = some (.int .i64 0):=(kC BK550.out 3).trans rfl;have hfz26_0:=kF BK550.out 0;have hfz26_1:=kF BK550.out 1;have hfz26_2:=kF BK550.out 2;have hfz26_3:=kF BK550.out 3))
    go_loopg [1,2,10,11,36] kj4 (fun kq v1 v2 v10 v11 v36 w' => ∃ (x1_2 : Int) (x2_2 : Int) (x10_2 : Int) (x11_2 : Int) (x36_2 : Int) (x551001_2 : List Int) (x551002_2 : Int) (u551001 : Value),v1 = .int .i64 x1_2∧v2 = .int .i64 x2_2∧v10 = .int .i64 x10_2∧v11 = .int .i64 x11_2∧v36 = .int .i64 x36_2∧As (spec_Watch.l0 kq x1_2 x2_2 x10_2 x11_2 l3 (l3.length : Int) x36_2 l0_0 l0_1 a0_2 a0_3 a0_4 true x551001_2 x551002_2 0 = some (r1,r2,r3,r4))∧As (kq ≤ kj4)∧As (Kd.R (Kd.int .i64) 3 w' w.heap.size (fun _ => True) u551001 x551001_2)∧As (w'.heap[gb546]? = some (.cells #[(.slice A0_0 l0_0.length c0_0),(.slice A0_1 l0_1.length c0_1),.int .i64 a0_2,.int .i64 a0_3,.int .i64 a0_4] 31 (0,0)))∧As (w'.heap[gb547]? = some (.cells #[.bool false,(.slice none 0 0),.int .i64 0,.int .i64 0] 56 (0,0)))∧As (w'.heap[gb550]? = some (.cells #[.bool true,u551001,.int .i64 x551002_2,.int .i64 0] 56 (0,0)))∧As (Below w.heap.size w w'))
    case atStart => exact ⟨(a1),(a2),(a1),(0),(0),(([] : List Int)),(0),(.slice none 0 0),(by first|rfl|(simp;done)|(simp [*];done)),(by first|rfl|(simp;done)|(simp [*];done)),(by first|rfl|(simp;done)|(simp [*];done)),(by first|rfl|(simp;done)|(simp [*];done)),(by first|rfl|(simp;done)|(simp [*];done)),H',⟨Nat.le_refl _⟩,⟨by first|exact Kd.R_nil _ _ _ _ _|exact Kd.N_nil _ _ _ _ _|exact Kd.V_nil _ _ _ _ _|exact Kd.Q_nil _ _ _ _ _|exact Kd.S_nil _ _ _ _ _⟩,⟨by (with_reducible repeat (first|refine kN ?_ _|refine kD ?_|refine kA ?_ _));refine blk_far ?_ NB546_550.out _;(with_reducible repeat (first|refine kN ?_ _|refine kD ?_|refine kA ?_ _));refine blk_far ?_ NB546_550.out _;(with_reducible repeat (first|refine kN ?_ _|refine kD ?_|refine kA ?_ _));refine blk_far ?_ NB546_550.out _;(with_reducible repeat (first|refine kN ?_ _|refine kD ?_|refine kA ?_ _));refine blk_far ?_ NB546_550.out _;(with_reducible repeat (first|refine kN ?_ _|refine kD ?_|refine kA ?_ _));exact BK546.out⟩,⟨by (with_reducible repeat (first|refine kN ?_ _|refine kD ?_|refine kA ?_ _));refine blk_far ?_ NB547_550.out _;(with_reducible repeat (first|refine kN ?_ _|refine kD ?_|refine kA ?_ _));refine blk_far ?_ NB547_550.out _;(with_reducible repeat (first|refine kN ?_ _|refine kD ?_|refine kA ?_ _));refine blk_far ?_ NB547_550.out _;(with_reducible repeat (first|refine kN ?_ _|refine kD ?_|refine kA ?_ _));refine blk_far ?_ NB547_550.out _;(with_reducible repeat (first|refine kN ?_ _|refine kD ?_|refine kA ?_ _));exact BK547.out⟩,⟨by (with_reducible repeat (first|refine kN ?_ _|refine kD ?_|refine kA ?_ _));refine blk_put (cs:=#[.bool true,.slice none 0 0,.int .i64 0,.int .i64 0]) ?_ 3 _ rfl;(with_reducible repeat (first|refine kN ?_ _|refine kD ?_|refine kA ?_ _));refine blk_put (cs:=#[.bool true,.slice none 0 0,.int .i64 0,.int .i64 0]) ?_ 2 _ rfl;(with_reducible repeat (first|refine kN ?_ _|refine kD ?_|refine kA ?_ _));refine blk_put (cs:=#[.bool true,.slice none 0 0,.int .i64 0,.int .i64 0]) ?_ 1 _ rfl;(with_reducible repeat (first|refine kN ?_ _|refine kD ?_|refine kA ?_ _));refine blk_put (cs:=#[.bool false,.slice none 0 0,.int .i64 0,.int .i64 0]) ?_ 0 _ rfl;(with_reducible repeat (first|refine kN ?_ _|refine kD ?_|refine kA ?_ _));exact BK550.out⟩,⟨by repeat (first|(with_reducible first|exact HB.out|apply bA|apply bN|apply bD|refine bS ?_ GE546.out|refine bS ?_ GE547.out|refine bS ?_ GE550.out)|exact HB.out)⟩⟩
    case round =>
     clear H'
     try clear c1
     try clear c2
     try clear p2
     try clear c3
     try clear c4
     try clear c8
     try clear c8b0
     try clear c8b1
     try clear c10
     try clear c12
     try clear c17
     try clear c20
     try clear c21
     try clear c24
     try clear c25
     try clear hcz13_0
     try clear hcz13_1
     try clear hcz13_2
     try clear hcz13_3
     try clear hcz13_4
     try clear hcz15_0
     try clear hcz15_1
     try clear hcz15_2
     try clear hcz15_3
     try clear hcz15_4
     try clear hcz18_0
     try clear hcz18_1
     try clear hcz18_2
     try clear hcz18_3
     try clear hcz18_4
     try clear hcz22_0
     try clear hcz22_1
     try clear hcz22_2
     try clear hcz22_3
     try clear hcz26_0
     try clear hcz26_1
     try clear hcz26_2
     try clear hcz26_3
     try clear hfz13_0
     try clear hfz13_1
     try clear hfz13_2
     try clear hfz13_3
     try clear hfz13_4
     try clear hfz15_0
     try clear hfz15_1
     try clear hfz15_2
     try clear hfz15_3
     try clear hfz15_4
     try clear hfz18_0
     try clear hfz18_1
     try clear hfz18_2
     try clear hfz18_3
     try clear hfz18_4
     try clear hfz22_0
     try clear hfz22_1
     try clear hfz22_2
     try clear hfz22_3
     try clear hfz26_0
     try clear hfz26_1
     try clear hfz26_2
     try clear hfz26_3
     try clear p2
     obtain ⟨x1_2,x2_2,x10_2,x11_2,x36_2,x551001_2,x551002_2,u551001,rfl,rfl,rfl,rfl,rfl,HA,HK2,HO_551001,BK546,BK547,BK550,HB⟩:=hrel
     cases gk with
     | zero => exact absurd HA.out (by simp [spec_Watch.l0])
     | succ k2 =>
      have H:=HA.out
      clear HA
      simp only [spec_Watch.l0] at H
      by_cases c27 : x36_2 < (l3.length : Int)
      ·rw [if_pos c27] at H
       have c27b0 : decide (x36_2 < (l3.length : Int)) = true:=decide_eq_true c27
       clear c27
       by_cases c28 : 0 ≤ x36_2
       ·rw [if_pos c28] at H
        have c28b0 : decide (0 ≤ x36_2) = true:=decide_eq_true c28
        clear c28
        by_cases c29 : x36_2 < (l3.length : Int)
        ·rw [if_pos c29] at H
         have c29b0 : decide (x36_2 < (l3.length : Int)) = true:=decide_eq_true c29
         clear c29
         have HC30:=Am H
         clear H
         have p551 : 0 ≤ (x36_2 : Int):=of_decide_eq_true (by first|(with_reducible assumption)|assumption)
         have q551 : x36_2 < (l3.length : Int):=of_decide_eq_true (by first|(with_reducible assumption)|assumption)
         obtain ⟨ad551,e551,hx551_0⟩:=Kd.at_int HR3.out x36_2 p551 q551
         cases e551
         replace hx551_0:=(HB.out.cell (World.block_lt_of_cell? w _ hx551_0)).trans hx551_0
         replace p551:=eq_true p551
         replace q551:=eq_true q551
         go_upto_region 9 with (fail)
         go_cut [52] (fun v52 wc => ∃ (kq : Nat) (x52_29 : Bool),v52 = .bool x52_29∧As (spec_Watch.j2 kq x1_2 x2_2 x10_2 x11_2 x36_2 (rd l3 x36_2) l3 (l3.length : Int) x36_2 x52_29 l0_0 l0_1 a0_2 a0_3 a0_4 true x551001_2 x551002_2 0 = some (r1,r2,r3,r4))∧As (kq ≤ k2)∧As (Kd.R (Kd.int .i64) 3 wc w.heap.size (fun _ => True) u551001 x551001_2)∧As (wc.heap[gb546]? = some (.cells #[(.slice A0_0 l0_0.length c0_0),(.slice A0_1 l0_1.length c0_1),.int .i64 a0_2,.int .i64 a0_3,.int .i64 a0_4] 31 (0,0)))∧As (wc.heap[gb547]? = some (.cells #[.bool false,(.slice none 0 0),.int .i64 0,.int .i64 0] 56 (0,0)))∧As (wc.heap[gb550]? = some (.cells #[.bool true,u551001,.int .i64 x551002_2,.int .i64 0] 56 (0,0)))∧As (Below w.heap.size w wc))
         case first =>
          have H:=HC30.out
          clear HC30
          by_cases c31 : (rd l3 x36_2) ≥ 0
          ·rw [if_pos c31] at H
           have c31b0 : decide (0 ≤ (rd l3 x36_2)) = true:=decide_eq_true c31
           clear c31
           (first|rw [c31b0]|(simp only [i64_w,i32_w];rw [c31b0])|skip)
           by_cases c32 : (rd l3 x36_2) ≤ 10000
           ·rw [if_pos c32] at H
            have c32b0 : decide ((rd l3 x36_2) ≤ 10000) = true:=decide_eq_true c32
            clear c32
            replace H:=Option.bind_eq_some_iff.mp H
            obtain ⟨t552,A330,H⟩:=H
            replace H : (spec_Watch.j2 k2 x1_2 x2_2 x10_2 x11_2 x36_2 (rd l3 x36_2) l3 (l3.length : Int) x36_2 t552 l0_0 l0_1 a0_2 a0_3 a0_4 true x551001_2 x551002_2 0) = some (r1,r2,r3,r4):=H
            have A33:=Am A330
            clear A330
            have H':=Am H
            clear H
            have hnb34:=NB546_547.out
            have hnc34:=NB547_546.out
            have hnb35:=NB546_550.out
            have hnc35:=NB550_546.out
            have hcz36_0 : wr.cell? ⟨gb546,0,none⟩ = some (.slice A0_0 l0_0.length c0_0):=(kC BK546.out 0).trans rfl
            have hcz36_1 : wr.cell? ⟨gb546,1,none⟩ = some (.slice A0_1 l0_1.length c0_1):=(kC BK546.out 1).trans rfl
            have hcz36_2 : wr.cell? ⟨gb546,2,none⟩ = some (.int .i64 a0_2):=(kC BK546.out 2).trans rfl
            have hcz36_3 : wr.cell? ⟨gb546,3,none⟩ = some (.int .i64 a0_3):=(kC BK546.out 3).trans rfl
            have hcz36_4 : wr.cell? ⟨gb546,4,none⟩ = some (.int .i64 a0_4):=(kC BK546.out 4).trans rfl
            have hfz36_0:=kF BK546.out 0
            have hfz36_1:=kF BK546.out 1
            have hfz36_2:=kF BK546.out 2
            have hfz36_3:=kF BK546.out 3
            have hfz36_4:=kF BK546.out 4
            go_wp2_with (first|(go_at_call 77;(with_reducible refine (spec_l3safe.calls k2 _ _ l0_0 _ _ l0_1 a0_2 a0_3 a0_4 x1_2 (rd l3 x36_2) t552 _ ?side1 ?side2 ?side3 ?side4 A33.out).mono ?_);(case side1 => repeat (first|exact (Kd.C_below HR0_0.out HB.out)|(with_reducible refine Kd.C_alloc ?_ _)|(with_reducible refine Kd.C_drewN ?_ _)|(with_reducible refine Kd.C_drew ?_)));(case side2 => exact HC0_0.out);(case side3 => repeat (first|exact (Kd.C_below HR0_1.out HB.out)|(with_reducible refine Kd.C_alloc ?_ _)|(with_reducible refine Kd.C_drewN ?_ _)|(with_reducible refine Kd.C_drew ?_)));(case side4 => exact HC0_1.out);rintro e w37 ⟨rfl,hb⟩;have n0_:=Am (Kd.R_below (by (with_reducible repeat (first|apply Kd.R_alloc|apply Kd.R_drewN|apply Kd.R_drew));exact HO_551001.out) hb);have n1_:=Am (blk_below (g:=gb546) (o:=.cells #[.slice A0_0 l0_0.length c0_0,.slice A0_1 l0_1.length c0_1,.int .i64 a0_2,.int .i64 a0_3,.int .i64 a0_4] 31 (0,0)) (by (with_reducible repeat (first|refine kN ?_ _|refine kD ?_|refine kA ?_ _));exact BK546.out) hb);have n2_:=Am (blk_below (g:=gb547) (o:=.cells #[.bool false,.slice none 0 0,.int .i64 0,.int .i64 0] 56 (0,0)) (by (with_reducible repeat (first|refine kN ?_ _|refine kD ?_|refine kA ?_ _));exact BK547.out) hb);have n3_:=Am (blk_below (g:=gb550) (o:=.cells #[.bool true,u551001,.int .i64 x551002_2,.int .i64 0] 56 (0,0)) (by (with_reducible repeat (first|refine kN ?_ _|refine kD ?_|refine kA ?_ _));exact BK550.out) hb);have n4_:=Am (below_step (by repeat (first|(with_reducible first|exact HB.out|apply bA|apply bN|apply bD|refine bS ?_ GE546.out|refine bS ?_ GE547.out|refine bS ?_ GE550.out)|exact HB.out)) hb);clear HO_551001;clear BK546;clear BK547;clear BK550;clear HB;have HO_551001:=n0_;have BK546:=n1_;have BK547:=n2_;have BK550:=n3_;have HB:=n4_;clear n0_ n1_ n2_ n3_ n4_;(try clear hb);(try clear hb2);(try clear hk);(try clear hi)))
            go_meet
            case rel => exact ⟨_,(t552),(by first|rfl|(simp;done)|(simp [*];done)),H',⟨by have:=HJ4.out;have:=HK2.out;first|omega|exact Nat.le_refl _⟩,⟨by (with_reducible repeat (first|apply Kd.R_alloc|apply Kd.R_drewN|apply Kd.R_drew));exact HO_551001.out⟩,⟨by (with_reducible repeat (first|refine kN ?_ _|refine kD ?_|refine kA ?_ _));exact BK546.out⟩,⟨by (with_reducible repeat (first|refine kN ?_ _|refine kD ?_|refine kA ?_ _));exact BK547.out⟩,⟨by (with_reducible repeat (first|refine kN ?_ _|refine kD ?_|refine kA ?_ _));exact BK550.out⟩,⟨by repeat (first|(with_reducible first|exact HB.out|apply bA|apply bN|apply bD|refine bS ?_ GE546.out|refine bS ?_ GE547.out|refine bS ?_ GE550.out)|exact HB.out)⟩⟩
           ·rw [if_neg c32] at H
            have c32b0 : decide ((rd l3 x36_2) ≤ 10000) = false:=decide_eq_false c32
            clear c32
            have H':=Am H
            clear H
            go_wp2
            go_meet
            case rel => exact ⟨_,(false),(by first|rfl|(simp;done)|(simp [*];done)),H',⟨by have:=HJ4.out;have:=HK2.out;first|omega|exact Nat.le_refl _⟩,⟨by (with_reducible repeat (first|apply Kd.R_alloc|apply Kd.R_drewN|apply Kd.R_drew));exact HO_551001.out⟩,⟨by (with_reducible repeat (first|refine kN ?_ _|refine kD ?_|refine kA ?_ _));exact BK546.out⟩,⟨by (with_reducible repeat (first|refine kN ?_ _|refine kD ?_|refine kA ?_ _));exact BK547.out⟩,⟨by (with_reducible repeat (first|refine kN ?_ _|refine kD ?_|refine kA ?_ _));exact BK550.out⟩,⟨by repeat (first|(with_reducible first|exact HB.out|apply bA|apply bN|apply bD|refine bS ?_ GE546.out|refine bS ?_ GE547.out|refine bS ?_ GE550.out)|exact HB.out)⟩⟩
          ·rw [if_neg c31] at H
           have c31b0 : decide (0 ≤ (rd l3 x36_2)) = false:=decide_eq_false c31
           clear c31
           (first|rw [c31b0]|(simp only [i64_w,i32_w];rw [c31b0])|skip)
           have H':=Am H
           clear H
           go_wp2
           go_meet
           case rel => exact ⟨_,(false),(by first|rfl|(simp;done)|(simp [*];done)),H',⟨by have:=HJ4.out;have:=HK2.out;first|omega|exact Nat.le_refl _⟩,⟨by (with_reducible repeat (first|apply Kd.R_alloc|apply Kd.R_drewN|apply Kd.R_drew));exact HO_551001.out⟩,⟨by (with_reducible repeat (first|refine kN ?_ _|refine kD ?_|refine kA ?_ _));exact BK546.out⟩,⟨by (with_reducible repeat (first|refine kN ?_ _|refine kD ?_|refine kA ?_ _));exact BK547.out⟩,⟨by (with_reducible repeat (first|refine kN ?_ _|refine kD ?_|refine kA ?_ _));exact BK550.out⟩,⟨by repeat (first|(with_reducible first|exact HB.out|apply bA|apply bN|apply bD|refine bS ?_ GE546.out|refine bS ?_ GE547.out|refine bS ?_ GE550.out)|exact HB.out)⟩⟩
         case rest =>
          clear HC30
          try clear c1
          try clear c2
          try clear p2
          try clear c3
          try clear c4
          try clear p5
          try clear q5
          try clear hx5
          try clear c8
          try clear c8b0
          try clear c8b1
          try clear c10
          try clear c12
          try clear c17
          try clear c20
          try clear c21
          try clear c24
          try clear c25
          try clear c27
          try clear c27b0
          try clear c28
          try clear c28b0
          try clear c29
          try clear c29b0
          try clear c31
          try clear c31b0
          try clear c32
          try clear c32b0
          try clear c34
          try clear c35
          try clear hcz13_0
          try clear hcz13_1
          try clear hcz13_2
          try clear hcz13_3
          try clear hcz13_4
          try clear hcz15_0
          try clear hcz15_1
          try clear hcz15_2
          try clear hcz15_3
          try clear hcz15_4
          try clear hcz18_0
          try clear hcz18_1
          try clear hcz18_2
          try clear hcz18_3
          try clear hcz18_4
          try clear hcz22_0
          try clear hcz22_1
          try clear hcz22_2
          try clear hcz22_3
          try clear hcz26_0
          try clear hcz26_1
          try clear hcz26_2
          try clear hcz26_3
          try clear hcz36_0
          try clear hcz36_1
          try clear hcz36_2
          try clear hcz36_3
          try clear hcz36_4
          try clear hfz13_0
          try clear hfz13_1
          try clear hfz13_2
          try clear hfz13_3
          try clear hfz13_4
          try clear hfz15_0
          try clear hfz15_1
          try clear hfz15_2
          try clear hfz15_3
          try clear hfz15_4
          try clear hfz18_0
          try clear hfz18_1
          try clear hfz18_2
          try clear hfz18_3
          try clear hfz18_4
          try clear hfz22_0
          try clear hfz22_1
          try clear hfz22_2
          try clear hfz22_3
          try clear hfz26_0
          try clear hfz26_1
          try clear hfz26_2
          try clear hfz26_3
          try clear hfz36_0
          try clear hfz36_1
          try clear hfz36_2
          try clear hfz36_3
          try clear hfz36_4
          try clear hx551_0
          try clear p2
          try clear p551
          try clear q551
          obtain ⟨kq,x52_29,rfl,HA,HJ29,HO_551001,BK546,BK547,BK550,HB⟩:=hcut
          cases kq with
          | zero => exact absurd HA.out (by simp [spec_Watch.j2])
          | succ kj29 =>
           have H:=HA.out
           clear HA
           simp only [spec_Watch.j2] at H
           by_cases c38 : x52_29 = true
           ·subst c38
            have H1 : (if x551001_2.length < 17592186044416 then (spec_Watch.l0 kj29 (wrap64 (x1_2 + (rd l3 x36_2))) (rd l3 x36_2) x1_2 0 l3 (l3.length : Int) (wrap64 (x36_2 + 1)) l0_0 l0_1 a0_2 a0_3 a0_4 true (x551001_2 ++ [(rd l3 x36_2)]) x551002_2 0) else (none)) = some (r1,r2,r3,r4):=by rw [if_pos rfl] at H;exact H
            clear H
            have H:=H1
            clear H1
            by_cases c39 : x551001_2.length < 17592186044416
            ·rw [if_pos c39] at H
             have LMc39:=Am c39
             clear c39
             obtain ⟨y553,hy553⟩ : ∃ y_ : List Int,y_ = (x551001_2 ++ [(rd l3 x36_2)]):=⟨_,rfl⟩
             replace H : (spec_Watch.l0 kj29 (wrap64 (x1_2 + (rd l3 x36_2))) (rd l3 x36_2) x1_2 0 l3 (l3.length : Int) (wrap64 (x36_2 + 1)) l0_0 l0_1 a0_2 a0_3 a0_4 true y553 x551002_2 0) = some (r1,r2,r3,r4):=by first|(rw [hy553];with_reducible exact H)|(have H2_:=(Option.bind_some _ _).symm.trans H;rw [hy553];with_reducible exact H2_)|(have H2_:=(Option.bind_some _ _).symm.trans H;with_reducible exact H2_)|with_reducible exact H|(rw [hy553];exact H)|exact H
             have Ny553:=Am hy553
             clear hy553
             have H':=Am H
             clear H
             have hnb40:=NB550_546.out
             have hnc40:=NB546_550.out
             have hnb41:=NB550_547.out
             have hnc41:=NB547_550.out
             have hcz42_0 : wc.cell? ⟨gb550,0,none⟩ = some (.bool true):=(kC BK550.out 0).trans rfl
             have hcz42_1 : wc.cell? ⟨gb550,1,none⟩ = some (u551001):=(kC BK550.out 1).trans rfl
             have hcz42_2 : wc.cell? ⟨gb550,2,none⟩ = some (.int .i64 x551002_2):=(kC BK550.out 2).trans rfl
             have hcz42_3 : wc.cell? ⟨gb550,3,none⟩ = some (.int .i64 0):=(kC BK550.out 3).trans rfl
             have hfz42_0:=kF BK550.out 0
             have hfz42_1:=kF BK550.out 1
             have hfz42_2:=kF BK550.out 2
             have hfz42_3:=kF BK550.out 3
             go_wp2_with (first|((with_reducible refine gate_builtin (b:=.append) (xs:=#[.tmp 76,.tmp 78]) rfl ?_);at_builtin;refine Kd.R_append (Kd.int .i64) (w0:=w) w.heap.size rfl (.tmp 76) (.tmp 78) 40 3 (.int .i64 0) 8 rfl Try.underlying40 info3 rfl (by decide) (by omega) u551001 x551001_2 (rd l3 x36_2) [.int .i64 (rd l3 x36_2)] (fun _ => True) (fun _ => False) rfl rfl ?aP (fun _ hk => hk.elim) ?aF ?aO ?aB ?aS ?aL ?_;(case aP => exact rfl);(case aB => exact (by repeat (first|(with_reducible first|exact HB.out|apply bA|apply bN|apply bD|refine bS ?_ GE546.out|refine bS ?_ GE547.out|refine bS ?_ GE550.out)|exact HB.out)));(case aF => exact (fun _ _ => trivial));(case aO => exact (by (with_reducible repeat (first|apply Kd.R_alloc|apply Kd.R_drewN|apply Kd.R_drew));exact HO_551001.out));(case aS => exact (below_size (by repeat (first|(with_reducible first|exact HB.out|apply bA|apply bN|apply bD|refine bS ?_ GE546.out|refine bS ?_ GE547.out|refine bS ?_ GE550.out)|exact HB.out))));(case aL => have:=LMc39.out;omega);intro v554 w43 ho hb hg hat;rw [← Ny553.out] at ho;have n0_:=Am (blk_grown (g:=gb546) (o:=.cells #[.slice A0_0 l0_0.length c0_0,.slice A0_1 l0_1.length c0_1,.int .i64 a0_2,.int .i64 a0_3,.int .i64 a0_4] 31 (0,0)) (by (with_reducible repeat (first|refine kN ?_ _|refine kD ?_|refine kA ?_ _));exact BK546.out) hg (Kd.R_ne HO_551001.out BK546.out (by decide)));have n1_:=Am (blk_grown (g:=gb547) (o:=.cells #[.bool false,.slice none 0 0,.int .i64 0,.int .i64 0] 56 (0,0)) (by (with_reducible repeat (first|refine kN ?_ _|refine kD ?_|refine kA ?_ _));exact BK547.out) hg (Kd.R_ne HO_551001.out BK547.out (by decide)));have n2_:=Am (blk_grown (g:=gb550) (o:=.cells #[.bool true,u551001,.int .i64 x551002_2,.int .i64 0] 56 (0,0)) (by (with_reducible repeat (first|refine kN ?_ _|refine kD ?_|refine kA ?_ _));exact BK550.out) hg (Kd.R_ne HO_551001.out BK550.out (by decide)));have n3_:=Am (hb);have n4_:=Am (ho);clear BK546;clear BK547;clear BK550;clear HB;clear HO_551001;have BK546:=n0_;have BK547:=n1_;have BK550:=n2_;have HB:=n3_;have HO555:=n4_;clear n0_ n1_ n2_ n3_ n4_;clear ho hb hg hat;obtain ⟨Ao44,co44,eo44⟩:=Kd.R_slice HO555.out;subst eo44;have hcz45_0 : w43.cell? ⟨gb550,0,none⟩ = some (.bool true):=(kC BK550.out 0).trans rfl;have hcz45_1 : w43.cell? ⟨gb550,1,none⟩ = some (u551001):=(kC BK550.out 1).trans rfl;have hcz45_2 : w43.cell? ⟨gb550,2,none⟩ = some (.int .i64 x551002_2):=(kC BK550.out 2).trans rfl;have hcz45_3 : w43.cell? ⟨gb550,3,none⟩ = some (.int .i64 0):=(kC BK550.out 3).trans rfl;have hfz45_0:=kF BK550.out 0;have hfz45_1:=kF BK550.out 1;have hfz45_2:=kF BK550.out 2;have hfz45_3:=kF BK550.out 3))
             go_roundg kj29
             case measure => have:=HJ4.out;have:=HK2.out;have:=HJ29.out;omega
             case rel => exact ⟨(wrap64 (x1_2 + (rd l3 x36_2))),((rd l3 x36_2)),(x1_2),(0),(wrap64 (x36_2 + 1)),(y553),(x551002_2),(.slice Ao44 y553.length co44),(by first|rfl|(simp;done)|(simp [*];done)),(by first|rfl|(simp;done)|(simp [*];done)),(by first|rfl|(simp;done)|(simp [*];done)),(by first|rfl|(simp;done)|(simp [*];done)),(by first|rfl|(simp;done)|(simp [*];done)),H',⟨by have:=HJ4.out;have:=HK2.out;have:=HJ29.out;omega⟩,⟨by (with_reducible repeat (first|apply Kd.R_alloc|apply Kd.R_drewN|apply Kd.R_drew));exact Kd.R_mono (Kd.R_far (p:=⟨gb550,1,none⟩) (Kd.R_types HO555.out BK550.out (by decide)) (fun _ hk => hk.2) (.slice Ao44 y553.length co44)) (fun _ hk => trivial)⟩,⟨by (with_reducible repeat (first|refine kN ?_ _|refine kD ?_|refine kA ?_ _));refine blk_far ?_ NB546_550.out _;(with_reducible repeat (first|refine kN ?_ _|refine kD ?_|refine kA ?_ _));exact BK546.out⟩,⟨by (with_reducible repeat (first|refine kN ?_ _|refine kD ?_|refine kA ?_ _));refine blk_far ?_ NB547_550.out _;(with_reducible repeat (first|refine kN ?_ _|refine kD ?_|refine kA ?_ _));exact BK547.out⟩,⟨by (with_reducible repeat (first|refine kN ?_ _|refine kD ?_|refine kA ?_ _));refine blk_put (cs:=#[.bool true,u551001,.int .i64 x551002_2,.int .i64 0]) ?_ 1 _ rfl;(with_reducible repeat (first|refine kN ?_ _|refine kD ?_|refine kA ?_ _));exact BK550.out⟩,⟨by repeat (first|(with_reducible first|exact HB.out|apply bA|apply bN|apply bD|refine bS ?_ GE546.out|refine bS ?_ GE547.out|refine bS ?_ GE550.out)|exact HB.out)⟩⟩
            ·rw [if_neg c39] at H
             exact absurd H (by simp)
           ·replace c38:=Bool.eq_false_iff.mpr c38
            subst c38
            have H1 : (if x36_2 > 0 then (if x11_2 ≥ a0_4 then ((spec_l2rate.f kj29 l0_0 l0_1 a0_2 a0_3 a0_4 x10_2).bind fun t556 => ((spec_l2less.f x2_2 t556).bind fun t557 => (if x551001_2.length < 17592186044416 then (spec_Watch.l0 kj29 (wrap64 (x1_2 + t557)) t557 x1_2 (wrap64 (x11_2 + 1)) l3 (l3.length : Int) (wrap64 (x36_2 + 1)) l0_0 l0_1 a0_2 a0_3 a0_4 true (x551001_2 ++ [t557]) (wrap64 (x551002_2 + 1)) 0) else (none)))) else (if x551001_2.length < 17592186044416 then (spec_Watch.l0 kj29 (wrap64 (x1_2 + x2_2)) x2_2 x1_2 (wrap64 (x11_2 + 1)) l3 (l3.length : Int) (wrap64 (x36_2 + 1)) l0_0 l0_1 a0_2 a0_3 a0_4 true (x551001_2 ++ [x2_2]) (wrap64 (x551002_2 + 1)) 0) else (none))) else (if x551001_2.length < 17592186044416 then (spec_Watch.l0 kj29 (wrap64 (x1_2 + x2_2)) x2_2 x1_2 x11_2 l3 (l3.length : Int) (wrap64 (x36_2 + 1)) l0_0 l0_1 a0_2 a0_3 a0_4 true (x551001_2 ++ [x2_2]) (wrap64 (x551002_2 + 1)) 0) else (none))) = some (r1,r2,r3,r4):=by rw [if_neg (show ¬ (false = true) by decide)] at H;exact H
            clear H
            have H:=H1
            clear H1
            by_cases c46 : x36_2 > 0
            ·rw [if_pos c46] at H
             have c46b0 : decide (0 < x36_2) = true:=decide_eq_true c46
             clear c46
             by_cases c47 : x11_2 ≥ a0_4
             ·rw [if_pos c47] at H
              have c47b0 : decide (a0_4 ≤ x11_2) = true:=decide_eq_true c47
              clear c47
              replace H:=Option.bind_eq_some_iff.mp H
              obtain ⟨t556,A480,H⟩:=H
              replace H : ((spec_l2less.f x2_2 t556).bind fun t557 => (if x551001_2.length < 17592186044416 then (spec_Watch.l0 kj29 (wrap64 (x1_2 + t557)) t557 x1_2 (wrap64 (x11_2 + 1)) l3 (l3.length : Int) (wrap64 (x36_2 + 1)) l0_0 l0_1 a0_2 a0_3 a0_4 true (x551001_2 ++ [t557]) (wrap64 (x551002_2 + 1)) 0) else (none))) = some (r1,r2,r3,r4):=H
              have A48:=Am A480
              clear A480
              replace H:=Option.bind_eq_some_iff.mp H
              obtain ⟨t557,A490,H⟩:=H
              replace H : (if x551001_2.length < 17592186044416 then (spec_Watch.l0 kj29 (wrap64 (x1_2 + t557)) t557 x1_2 (wrap64 (x11_2 + 1)) l3 (l3.length : Int) (wrap64 (x36_2 + 1)) l0_0 l0_1 a0_2 a0_3 a0_4 true (x551001_2 ++ [t557]) (wrap64 (x551002_2 + 1)) 0) else (none)) = some (r1,r2,r3,r4):=H
              have A49:=Am A490
              clear A490
              by_cases c50 : x551001_2.length < 17592186044416
              ·rw [if_pos c50] at H
               have LMc50:=Am c50
               clear c50
               obtain ⟨y558,hy558⟩ : ∃ y_ : List Int,y_ = (x551001_2 ++ [t557]):=⟨_,rfl⟩
               replace H : (spec_Watch.l0 kj29 (wrap64 (x1_2 + t557)) t557 x1_2 (wrap64 (x11_2 + 1)) l3 (l3.length : Int) (wrap64 (x36_2 + 1)) l0_0 l0_1 a0_2 a0_3 a0_4 true y558 (wrap64 (x551002_2 + 1)) 0) = some (r1,r2,r3,r4):=by first|(rw [hy558];with_reducible exact H)|(have H2_:=(Option.bind_some _ _).symm.trans H;rw [hy558];with_reducible exact H2_)|(have H2_:=(Option.bind_some _ _).symm.trans H;with_reducible exact H2_)|with_reducible exact H|(rw [hy558];exact H)|exact H
               have Ny558:=Am hy558
               clear hy558
               have H':=Am H
               clear H
               have hnb51:=NB550_546.out
               have hnc51:=NB546_550.out
               have hnb52:=NB550_547.out
               have hnc52:=NB547_550.out
               have hcz53_0 : wc.cell? ⟨gb550,0,none⟩ = some (.bool true):=(kC BK550.out 0).trans rfl
               have hcz53_1 : wc.cell? ⟨gb550,1,none⟩ = some (u551001):=(kC BK550.out 1).trans rfl
               have hcz53_2 : wc.cell? ⟨gb550,2,none⟩ = some (.int .i64 x551002_2):=(kC BK550.out 2).trans rfl
               have hcz53_3 : wc.cell? ⟨gb550,3,none⟩ = some (.int .i64 0):=(kC BK550.out 3).trans rfl
               have hfz53_0:=kF BK550.out 0
               have hfz53_1:=kF BK550.out 1
               have hfz53_2:=kF BK550.out 2
               have hfz53_3:=kF BK550.out 3
               have hnb54:=NB546_547.out
               have hnc54:=NB547_546.out
               have hcz55_0 : wc.cell? ⟨gb546,0,none⟩ = some (.slice A0_0 l0_0.length c0_0):=(kC BK546.out 0).trans rfl
               have hcz55_1 : wc.cell? ⟨gb546,1,none⟩ = some (.slice A0_1 l0_1.length c0_1):=(kC BK546.out 1).trans rfl
               have hcz55_2 : wc.cell? ⟨gb546,2,none⟩ = some (.int .i64 a0_2):=(kC BK546.out 2).trans rfl
               have hcz55_3 : wc.cell? ⟨gb546,3,none⟩ = some (.int .i64 a0_3):=(kC BK546.out 3).trans rfl
               have hcz55_4 : wc.cell? ⟨gb546,4,none⟩ = some (.int .i64 a0_4):=(kC BK546.out 4).trans rfl
               have hfz55_0:=kF BK546.out 0
               have hfz55_1:=kF BK546.out 1
               have hfz55_2:=kF BK546.out 2
               have hfz55_3:=kF BK546.out 3
               have hfz55_4:=kF BK546.out 4
               go_wp2_with (first|((with_reducible refine gate_callee (f:=70) rfl ?_);refine goesL_ (some 67) rfl rfl Try.func70 (by kernel_rfl) rfl #[.agg #[.slice A0_0 l0_0.length c0_0,.slice A0_1 l0_1.length c0_1,.int .i64 a0_2,.int .i64 a0_3,.int .i64 a0_4],.int .i64 x10_2] rfl (by (try simp only [List.map_toArray,List.map_cons,List.map_nil]);first|done|rfl|(simp only [List.length_drop,List.length_take];rfl)) ?_;(with_reducible refine (spec_l2rate.calls kj29 _ _ l0_0 _ _ l0_1 a0_2 a0_3 a0_4 x10_2 t556 _ ?side1 ?side2 ?side3 ?side4 A48.out).mono ?_);(case side1 => exact Kd.C_below HR0_0.out (by repeat (first|(with_reducible first|exact HB.out|apply bA|apply bN|apply bD|refine bS ?_ GE546.out|refine bS ?_ GE547.out|refine bS ?_ GE550.out)|exact HB.out)));(case side2 => exact HC0_0.out);(case side3 => exact Kd.C_below HR0_1.out (by repeat (first|(with_reducible first|exact HB.out|apply bA|apply bN|apply bD|refine bS ?_ GE546.out|refine bS ?_ GE547.out|refine bS ?_ GE550.out)|exact HB.out)));(case side4 => exact HC0_1.out);rintro e w56 ⟨rfl,hb⟩;refine ⟨_,rfl,?_⟩;have n0_:=Am (Kd.R_below (by (with_reducible repeat (first|apply Kd.R_alloc|apply Kd.R_drewN|apply Kd.R_drew));exact (Kd.R_mono (Kd.R_far (p:=⟨gb550,2,none⟩) (Kd.R_types HO_551001.out BK550.out (by decide)) (fun _ hk => hk.2) (.int .i64 (wrap64 (x551002_2 + 1)))) (fun _ h_ => h_.1))) hb);have n1_:=Am (blk_below (g:=gb546) (o:=.cells #[.slice A0_0 l0_0.length c0_0,.slice A0_1 l0_1.length c0_1,.int .i64 a0_2,.int .i64 a0_3,.int .i64 a0_4] 31 (0,0)) (by (with_reducible repeat (first|refine kN ?_ _|refine kD ?_|refine kA ?_ _));refine blk_far ?_ NB546_550.out _;(with_reducible repeat (first|refine kN ?_ _|refine kD ?_|refine kA ?_ _));exact BK546.out) hb);have n2_:=Am (blk_below (g:=gb547) (o:=.cells #[.bool false,.slice none 0 0,.int .i64 0,.int .i64 0] 56 (0,0)) (by (with_reducible repeat (first|refine kN ?_ _|refine kD ?_|refine kA ?_ _));refine blk_far ?_ NB547_550.out _;(with_reducible repeat (first|refine kN ?_ _|refine kD ?_|refine kA ?_ _));exact BK547.out) hb);have n3_:=Am (blk_below (g:=gb550) (o:=.cells #[.bool true,u551001,.int .i64 (wrap64 (x551002_2 + 1)),.int .i64 0] 56 (0,0)) (by (with_reducible repeat (first|refine kN ?_ _|refine kD ?_|refine kA ?_ _));refine blk_put (cs:=#[.bool true,u551001,.int .i64 x551002_2,.int .i64 0]) ?_ 2 _ rfl;(with_reducible repeat (first|refine kN ?_ _|refine kD ?_|refine kA ?_ _));exact BK550.out) hb);have n4_:=Am (below_step (by repeat (first|(with_reducible first|exact HB.out|apply bA|apply bN|apply bD|refine bS ?_ GE546.out|refine bS ?_ GE547.out|refine bS ?_ GE550.out)|exact HB.out)) hb);clear HO_551001;clear BK546;clear BK547;clear BK550;clear HB;have HO_551001:=n0_;have BK546:=n1_;have BK547:=n2_;have BK550:=n3_;have HB:=n4_;clear n0_ n1_ n2_ n3_ n4_;(try clear hb);(try clear hb2);(try clear hk);(try clear hi))|((with_reducible refine gate_callee (f:=73) rfl ?_);refine goesL_ (some 68) rfl rfl Try.func73 (by kernel_rfl) rfl #[.int .i64 x2_2,.int .i64 t556] rfl (by (try simp only [List.map_toArray,List.map_cons,List.map_nil]);first|done|rfl|(simp only [List.length_drop,List.length_take];rfl)) ?_;(with_reducible refine (spec_l2less.calls x2_2 t556 t557 _ A49.out).mono ?_);rintro e w' ⟨rfl,⟨nd,rfl⟩⟩;refine ⟨_,rfl,?_⟩;(try (rw [drewN_self w56];generalize hq_ : World.drewN w56 _ = w56;have n0_ : As (Kd.R (Kd.int .i64) 3 w56 w.heap.size (fun _ => True) u551001 x551001_2):=⟨by rw [← hq_];exact (by (with_reducible repeat (first|apply Kd.R_alloc|apply Kd.R_drewN|apply Kd.R_drew));exact HO_551001.out)⟩;have n1_ : As (w56.heap[gb546]? = some (.cells #[.slice A0_0 l0_0.length c0_0,.slice A0_1 l0_1.length c0_1,.int .i64 a0_2,.int .i64 a0_3,.int .i64 a0_4] 31 (0,0))):=⟨by rw [← hq_];exact (by (with_reducible repeat (first|refine kN ?_ _|refine kD ?_|refine kA ?_ _));exact BK546.out)⟩;have n2_ : As (w56.heap[gb547]? = some (.cells #[.bool false,.slice none 0 0,.int .i64 0,.int .i64 0] 56 (0,0))):=⟨by rw [← hq_];exact (by (with_reducible repeat (first|refine kN ?_ _|refine kD ?_|refine kA ?_ _));exact BK547.out)⟩;have n3_ : As (w56.heap[gb550]? = some (.cells #[.bool true,u551001,.int .i64 (wrap64 (x551002_2 + 1)),.int .i64 0] 56 (0,0))):=⟨by rw [← hq_];exact (by (with_reducible repeat (first|refine kN ?_ _|refine kD ?_|refine kA ?_ _));exact BK550.out)⟩;have n4_ : As (Below w.heap.size w w56):=⟨by rw [← hq_];exact (by repeat (first|(with_reducible first|exact HB.out|apply bA|apply bN|apply bD|refine bS ?_ GE546.out|refine bS ?_ GE547.out|refine bS ?_ GE550.out)|exact HB.out))⟩;clear HO_551001 BK546 BK547 BK550 HB hq_;have HO_551001:=n0_;have BK546:=n1_;have BK547:=n2_;have BK550:=n3_;have HB:=n4_;clear n0_ n1_ n2_ n3_ n4_));have hcz57_0 : w56.cell? ⟨gb550,0,none⟩ = some (.bool true):=(kC BK550.out 0).trans rfl;have hcz57_1 : w56.cell? ⟨gb550,1,none⟩ = some (u551001):=(kC BK550.out 1).trans rfl;have hcz57_2 : w56.cell? ⟨gb550,2,none⟩ = some (.int .i64 (wrap64 (x551002_2 + 1))):=(kC BK550.out 2).trans rfl;have hcz57_3 : w56.cell? ⟨gb550,3,none⟩ = some (.int .i64 0):=(kC BK550.out 3).trans rfl;have hfz57_0:=kF BK550.out 0;have hfz57_1:=kF BK550.out 1;have hfz57_2:=kF BK550.out 2;have hfz57_3:=kF BK550.out 3)|((with_reducible refine gate_builtin (b:=.append) (xs:=#[.tmp 76,.tmp 78]) rfl ?_);at_builtin;refine Kd.R_append (Kd.int .i64) (w0:=w) w.heap.size rfl (.tmp 76) (.tmp 78) 40 3 (.int .i64 0) 8 rfl Try.underlying40 info3 rfl (by decide) (by omega) u551001 x551001_2 t557 [.int .i64 t557] (fun _ => True) (fun _ => False) rfl rfl ?aP (fun _ hk => hk.elim) ?aF ?aO ?aB ?aS ?aL ?_;(case aP => exact rfl);(case aB => exact (by repeat (first|(with_reducible first|exact HB.out|apply bA|apply bN|apply bD|refine bS ?_ GE546.out|refine bS ?_ GE547.out|refine bS ?_ GE550.out)|exact HB.out)));(case aF => exact (fun _ _ => trivial));(case aO => exact (by (with_reducible repeat (first|apply Kd.R_alloc|apply Kd.R_drewN|apply Kd.R_drew));exact HO_551001.out));(case aS => exact (below_size (by repeat (first|(with_reducible first|exact HB.out|apply bA|apply bN|apply bD|refine bS ?_ GE546.out|refine bS ?_ GE547.out|refine bS ?_ GE550.out)|exact HB.out))));(case aL => have:=LMc50.out;omega);intro v559 w58 ho hb hg hat;rw [← Ny558.out] at ho;have n0_:=Am (blk_grown (g:=gb546) (o:=.cells #[.slice A0_0 l0_0.length c0_0,.slice A0_1 l0_1.length c0_1,.int .i64 a0_2,.int .i64 a0_3,.int .i64 a0_4] 31 (0,0)) (by (with_reducible repeat (first|refine kN ?_ _|refine kD ?_|refine kA ?_ _));exact BK546.out) hg (Kd.R_ne HO_551001.out BK546.out (by decide)));have n1_:=Am (blk_grown (g:=gb547) (o:=.cells #[.bool false,.slice none 0 0,.int .i64 0,.int .i64 0] 56 (0,0)) (by (with_reducible repeat (first|refine kN ?_ _|refine kD ?_|refine kA ?_ _));exact BK547.out) hg (Kd.R_ne HO_551001.out BK547.out (by decide)));have n2_:=Am (blk_grown (g:=gb550) (o:=.cells #[.bool true,u551001,.int .i64 (wrap64 (x551002_2 + 1)),.int .i64 0] 56 (0,0)) (by (with_reducible repeat (first|refine kN ?_ _|refine kD ?_|refine kA ?_ _));exact BK550.out) hg (Kd.R_ne HO_551001.out BK550.out (by decide)));have n3_:=Am (hb);have n4_:=Am (ho);clear BK546;clear BK547;clear BK550;clear HB;clear HO_551001;have BK546:=n0_;have BK547:=n1_;have BK550:=n2_;have HB:=n3_;have HO560:=n4_;clear n0_ n1_ n2_ n3_ n4_;clear ho hb hg hat;obtain ⟨Ao59,co59,eo59⟩:=Kd.R_slice HO560.out;subst eo59;have hcz60_0 : w58.cell? ⟨gb550,0,none⟩ = some (.bool true):=(kC BK550.out 0).trans rfl;have hcz60_1 : w58.cell? ⟨gb550,1,none⟩ = some (u551001):=(kC BK550.out 1).trans rfl;have hcz60_2 : w58.cell? ⟨gb550,2,none⟩ = some (.int .i64 (wrap64 (x551002_2 + 1))):=(kC BK550.out 2).trans rfl;have hcz60_3 : w58.cell? ⟨gb550,3,none⟩ = some (.int .i64 0):=(kC BK550.out 3).trans rfl;have hfz60_0:=kF BK550.out 0;have hfz60_1:=kF BK550.out 1;have hfz60_2:=kF BK550.out 2;have hfz60_3:=kF BK550.out 3))
               go_roundg kj29
               case measure => have:=HJ4.out;have:=HK2.out;have:=HJ29.out;omega
               case rel => exact ⟨(wrap64 (x1_2 + t557)),(t557),(x1_2),(wrap64 (x11_2 + 1)),(wrap64 (x36_2 + 1)),(y558),(wrap64 (x551002_2 + 1)),(.slice Ao59 y558.length co59),(by first|rfl|(simp;done)|(simp [*];done)),(by first|rfl|(simp;done)|(simp [*];done)),(by first|rfl|(simp;done)|(simp [*];done)),(by first|rfl|(simp;done)|(simp [*];done)),(by first|rfl|(simp;done)|(simp [*];done)),H',⟨by have:=HJ4.out;have:=HK2.out;have:=HJ29.out;omega⟩,⟨by (with_reducible repeat (first|apply Kd.R_alloc|apply Kd.R_drewN|apply Kd.R_drew));exact Kd.R_mono (Kd.R_far (p:=⟨gb550,1,none⟩) (Kd.R_types HO560.out BK550.out (by decide)) (fun _ hk => hk.2) (.slice Ao59 y558.length co59)) (fun _ hk => trivial)⟩,⟨by (with_reducible repeat (first|refine kN ?_ _|refine kD ?_|refine kA ?_ _));refine blk_far ?_ NB546_550.out _;(with_reducible repeat (first|refine kN ?_ _|refine kD ?_|refine kA ?_ _));exact BK546.out⟩,⟨by (with_reducible repeat (first|refine kN ?_ _|refine kD ?_|refine kA ?_ _));refine blk_far ?_ NB547_550.out _;(with_reducible repeat (first|refine kN ?_ _|refine kD ?_|refine kA ?_ _));exact BK547.out⟩,⟨by (with_reducible repeat (first|refine kN ?_ _|refine kD ?_|refine kA ?_ _));refine blk_put (cs:=#[.bool true,u551001,.int .i64 (wrap64 (x551002_2 + 1)),.int .i64 0]) ?_ 1 _ rfl;(with_reducible repeat (first|refine kN ?_ _|refine kD ?_|refine kA ?_ _));exact BK550.out⟩,⟨by repeat (first|(with_reducible first|exact HB.out|apply bA|apply bN|apply bD|refine bS ?_ GE546.out|refine bS ?_ GE547.out|refine bS ?_ GE550.out)|exact HB.out)⟩⟩
              ·rw [if_neg c50] at H
               exact absurd H (by simp)
             ·rw [if_neg c47] at H
              have c47b0 : decide (a0_4 ≤ x11_2) = false:=decide_eq_false c47
              clear c47
              by_cases c61 : x551001_2.length < 17592186044416
              ·rw [if_pos c61] at H
               have LMc61:=Am c61
               clear c61
               obtain ⟨y561,hy561⟩ : ∃ y_ : List Int,y_ = (x551001_2 ++ [x2_2]):=⟨_,rfl⟩
               replace H : (spec_Watch.l0 kj29 (wrap64 (x1_2 + x2_2)) x2_2 x1_2 (wrap64 (x11_2 + 1)) l3 (l3.length : Int) (wrap64 (x36_2 + 1)) l0_0 l0_1 a0_2 a0_3 a0_4 true y561 (wrap64 (x551002_2 + 1)) 0) = some (r1,r2,r3,r4):=by first|(rw [hy561];with_reducible exact H)|(have H2_:=(Option.bind_some _ _).symm.trans H;rw [hy561];with_reducible exact H2_)|(have H2_:=(Option.bind_some _ _).symm.trans H;with_reducible exact H2_)|with_reducible exact H|(rw [hy561];exact H)|exact H
               have Ny561:=Am hy561
               clear hy561
               have H':=Am H
               clear H
               have hnb62:=NB550_546.out
               have hnc62:=NB546_550.out
               have hnb63:=NB550_547.out
               have hnc63:=NB547_550.out
               have hcz64_0 : wc.cell? ⟨gb550,0,none⟩ = some (.bool true):=(kC BK550.out 0).trans rfl
               have hcz64_1 : wc.cell? ⟨gb550,1,none⟩ = some (u551001):=(kC BK550.out 1).trans rfl
               have hcz64_2 : wc.cell? ⟨gb550,2,none⟩ = some (.int .i64 x551002_2):=(kC BK550.out 2).trans rfl
               have hcz64_3 : wc.cell? ⟨gb550,3,none⟩ = some (.int .i64 0):=(kC BK550.out 3).trans rfl
               have hfz64_0:=kF BK550.out 0
               have hfz64_1:=kF BK550.out 1
               have hfz64_2:=kF BK550.out 2
               have hfz64_3:=kF BK550.out 3
               have hnb65:=NB546_547.out
               have hnc65:=NB547_546.out
               have hcz66_0 : wc.cell? ⟨gb546,0,none⟩ = some (.slice A0_0 l0_0.length c0_0):=(kC BK546.out 0).trans rfl
               have hcz66_1 : wc.cell? ⟨gb546,1,none⟩ = some (.slice A0_1 l0_1.length c0_1):=(kC BK546.out 1).trans rfl
               have hcz66_2 : wc.cell? ⟨gb546,2,none⟩ = some (.int .i64 a0_2):=(kC BK546.out 2).trans rfl
               have hcz66_3 : wc.cell? ⟨gb546,3,none⟩ = some (.int .i64 a0_3):=(kC BK546.out 3).trans rfl
               have hcz66_4 : wc.cell? ⟨gb546,4,none⟩ = some (.int .i64 a0_4):=(kC BK546.out 4).trans rfl
               have hfz66_0:=kF BK546.out 0
               have hfz66_1:=kF BK546.out 1
               have hfz66_2:=kF BK546.out 2
               have hfz66_3:=kF BK546.out 3
               have hfz66_4:=kF BK546.out 4
               go_wp2_with (first|((with_reducible refine gate_builtin (b:=.append) (xs:=#[.tmp 76,.tmp 78]) rfl ?_);at_builtin;refine Kd.R_append (Kd.int .i64) (w0:=w) w.heap.size rfl (.tmp 76) (.tmp 78) 40 3 (.int .i64 0) 8 rfl Try.underlying40 info3 rfl (by decide) (by omega) u551001 x551001_2 x2_2 [.int .i64 x2_2] (fun _ => True) (fun _ => False) rfl (by first|(go_simp;done)|(go_simp;rfl)) ?aP (fun _ hk => hk.elim) ?aF ?aO ?aB ?aS ?aL ?_;(case aP => exact rfl);(case aB => exact (by repeat (first|(with_reducible first|exact HB.out|apply bA|apply bN|apply bD|refine bS ?_ GE546.out|refine bS ?_ GE547.out|refine bS ?_ GE550.out)|exact HB.out)));(case aF => exact (fun _ _ => trivial));(case aO => exact (by (with_reducible repeat (first|apply Kd.R_alloc|apply Kd.R_drewN|apply Kd.R_drew));exact Kd.R_mono (Kd.R_far (p:=⟨gb550,2,none⟩) (Kd.R_types HO_551001.out BK550.out (by decide)) (fun _ hk => hk.2) (.int .i64 (wrap64 (x551002_2 + 1)))) (fun _ hk => trivial)));(case aS => exact (below_size (by repeat (first|(with_reducible first|exact HB.out|apply bA|apply bN|apply bD|refine bS ?_ GE546.out|refine bS ?_ GE547.out|refine bS ?_ GE550.out)|exact HB.out))));(case aL => have:=LMc61.out;omega);intro v562 w67 ho hb hg hat;rw [← Ny561.out] at ho;have n0_:=Am (blk_grown (g:=gb546) (o:=.cells #[.slice A0_0 l0_0.length c0_0,.slice A0_1 l0_1.length c0_1,.int .i64 a0_2,.int .i64 a0_3,.int .i64 a0_4] 31 (0,0)) (by (with_reducible repeat (first|refine kN ?_ _|refine kD ?_|refine kA ?_ _));refine blk_far ?_ NB546_550.out _;(with_reducible repeat (first|refine kN ?_ _|refine kD ?_|refine kA ?_ _));exact BK546.out) hg (Kd.R_ne HO_551001.out BK546.out (by decide)));have n1_:=Am (blk_grown (g:=gb547) (o:=.cells #[.bool false,.slice none 0 0,.int .i64 0,.int .i64 0] 56 (0,0)) (by (with_reducible repeat (first|refine kN ?_ _|refine kD ?_|refine kA ?_ _));refine blk_far ?_ NB547_550.out _;(with_reducible repeat (first|refine kN ?_ _|refine kD ?_|refine kA ?_ _));exact BK547.out) hg (Kd.R_ne HO_551001.out BK547.out (by decide)));have n2_:=Am (blk_grown (g:=gb550) (o:=.cells #[.bool true,u551001,.int .i64 (wrap64 (x551002_2 + 1)),.int .i64 0] 56 (0,0)) (by (with_reducible repeat (first|refine kN ?_ _|refine kD ?_|refine kA ?_ _));refine blk_put (cs:=#[.bool true,u551001,.int .i64 x551002_2,.int .i64 0]) ?_ 2 _ rfl;(with_reducible repeat (first|refine kN ?_ _|refine kD ?_|refine kA ?_ _));exact BK550.out) hg (Kd.R_ne HO_551001.out BK550.out (by decide)));have n3_:=Am (hb);have n4_:=Am (ho);clear BK546;clear BK547;clear BK550;clear HB;clear HO_551001;have BK546:=n0_;have BK547:=n1_;have BK550:=n2_;have HB:=n3_;have HO563:=n4_;clear n0_ n1_ n2_ n3_ n4_;clear ho hb hg hat;obtain ⟨Ao68,co68,eo68⟩:=Kd.R_slice HO563.out;subst eo68;have hcz69_0 : w67.cell? ⟨gb550,0,none⟩ = some (.bool true):=(kC BK550.out 0).trans rfl;have hcz69_1 : w67.cell? ⟨gb550,1,none⟩ = some (u551001):=(kC BK550.out 1).trans rfl;have hcz69_2 : w67.cell? ⟨gb550,2,none⟩ = some (.int .i64 (wrap64 (x551002_2 + 1))):=(kC BK550.out 2).trans rfl;have hcz69_3 : w67.cell? ⟨gb550,3,none⟩ = some (.int .i64 0):=(kC BK550.out 3).trans rfl;have hfz69_0:=kF BK550.out 0;have hfz69_1:=kF BK550.out 1;have hfz69_2:=kF BK550.out 2;have hfz69_3:=kF BK550.out 3))
               go_roundg kj29
               case measure => have:=HJ4.out;have:=HK2.out;have:=HJ29.out;omega
               case rel => exact ⟨(wrap64 (x1_2 + x2_2)),(x2_2),(x1_2),(wrap64 (x11_2 + 1)),(wrap64 (x36_2 + 1)),(y561),(wrap64 (x551002_2 + 1)),(.slice Ao68 y561.length co68),(by first|rfl|(simp;done)|(simp [*];done)),(by first|rfl|(simp;done)|(simp [*];done)),(by first|rfl|(simp;done)|(simp [*];done)),(by first|rfl|(simp;done)|(simp [*];done)),(by first|rfl|(simp;done)|(simp [*];done)),H',⟨by have:=HJ4.out;have:=HK2.out;have:=HJ29.out;omega⟩,⟨by (with_reducible repeat (first|apply Kd.R_alloc|apply Kd.R_drewN|apply Kd.R_drew));exact Kd.R_mono (Kd.R_far (p:=⟨gb550,1,none⟩) (Kd.R_types HO563.out BK550.out (by decide)) (fun _ hk => hk.2) (.slice Ao68 y561.length co68)) (fun _ hk => trivial)⟩,⟨by (with_reducible repeat (first|refine kN ?_ _|refine kD ?_|refine kA ?_ _));refine blk_far ?_ NB546_550.out _;(with_reducible repeat (first|refine kN ?_ _|refine kD ?_|refine kA ?_ _));exact BK546.out⟩,⟨by (with_reducible repeat (first|refine kN ?_ _|refine kD ?_|refine kA ?_ _));refine blk_far ?_ NB547_550.out _;(with_reducible repeat (first|refine kN ?_ _|refine kD ?_|refine kA ?_ _));exact BK547.out⟩,⟨by (with_reducible repeat (first|refine kN ?_ _|refine kD ?_|refine kA ?_ _));refine blk_put (cs:=#[.bool true,u551001,.int .i64 (wrap64 (x551002_2 + 1)),.int .i64 0]) ?_ 1 _ rfl;(with_reducible repeat (first|refine kN ?_ _|refine kD ?_|refine kA ?_ _));exact BK550.out⟩,⟨by repeat (first|(with_reducible first|exact HB.out|apply bA|apply bN|apply bD|refine bS ?_ GE546.out|refine bS ?_ GE547.out|refine bS ?_ GE550.out)|exact HB.out)⟩⟩
              ·rw [if_neg c61] at H
               exact absurd H (by simp)
            ·rw [if_neg c46] at H
             have c46b0 : decide (0 < x36_2) = false:=decide_eq_false c46
             clear c46
             by_cases c70 : x551001_2.length < 17592186044416
             ·rw [if_pos c70] at H
              have LMc70:=Am c70
              clear c70
              obtain ⟨y564,hy564⟩ : ∃ y_ : List Int,y_ = (x551001_2 ++ [x2_2]):=⟨_,rfl⟩
              replace H : (spec_Watch.l0 kj29 (wrap64 (x1_2 + x2_2)) x2_2 x1_2 x11_2 l3 (l3.length : Int) (wrap64 (x36_2 + 1)) l0_0 l0_1 a0_2 a0_3 a0_4 true y564 (wrap64 (x551002_2 + 1)) 0) = some (r1,r2,r3,r4):=by first|(rw [hy564];with_reducible exact H)|(have H2_:=(Option.bind_some _ _).symm.trans H;rw [hy564];with_reducible exact H2_)|(have H2_:=(Option.bind_some _ _).symm.trans H;with_reducible exact H2_)|with_reducible exact H|(rw [hy564];exact H)|exact H
              have Ny564:=Am hy564
              clear hy564
              have H':=Am H
              clear H
              have hnb71:=NB550_546.out
              have hnc71:=NB546_550.out
              have hnb72:=NB550_547.out
              have hnc72:=NB547_550.out
              have hcz73_0 : wc.cell? ⟨gb550,0,none⟩ = some (.bool true):=(kC BK550.out 0).trans rfl
              have hcz73_1 : wc.cell? ⟨gb550,1,none⟩ = some (u551001):=(kC BK550.out 1).trans rfl
              have hcz73_2 : wc.cell? ⟨gb550,2,none⟩ = some (.int .i64 x551002_2):=(kC BK550.out 2).trans rfl
              have hcz73_3 : wc.cell? ⟨gb550,3,none⟩ = some (.int .i64 0):=(kC BK550.out 3).trans rfl
              have hfz73_0:=kF BK550.out 0
              have hfz73_1:=kF BK550.out 1
              have hfz73_2:=kF BK550.out 2
              have hfz73_3:=kF BK550.out 3
              go_wp2_with (first|((with_reducible refine gate_builtin (b:=.append) (xs:=#[.tmp 76,.tmp 78]) rfl ?_);at_builtin;refine Kd.R_append (Kd.int .i64) (w0:=w) w.heap.size rfl (.tmp 76) (.tmp 78) 40 3 (.int .i64 0) 8 rfl Try.underlying40 info3 rfl (by decide) (by omega) u551001 x551001_2 x2_2 [.int .i64 x2_2] (fun _ => True) (fun _ => False) rfl (by first|(go_simp;done)|(go_simp;rfl)) ?aP (fun _ hk => hk.elim) ?aF ?aO ?aB ?aS ?aL ?_;(case aP => exact rfl);(case aB => exact (by repeat (first|(with_reducible first|exact HB.out|apply bA|apply bN|apply bD|refine bS ?_ GE546.out|refine bS ?_ GE547.out|refine bS ?_ GE550.out)|exact HB.out)));(case aF => exact (fun _ _ => trivial));(case aO => exact (by (with_reducible repeat (first|apply Kd.R_alloc|apply Kd.R_drewN|apply Kd.R_drew));exact Kd.R_mono (Kd.R_far (p:=⟨gb550,2,none⟩) (Kd.R_types HO_551001.out BK550.out (by decide)) (fun _ hk => hk.2) (.int .i64 (wrap64 (x551002_2 + 1)))) (fun _ hk => trivial)));(case aS => exact (below_size (by repeat (first|(with_reducible first|exact HB.out|apply bA|apply bN|apply bD|refine bS ?_ GE546.out|refine bS ?_ GE547.out|refine bS ?_ GE550.out)|exact HB.out))));(case aL => have:=LMc70.out;omega);intro v565 w74 ho hb hg hat;rw [← Ny564.out] at ho;have n0_:=Am (blk_grown (g:=gb546) (o:=.cells #[.slice A0_0 l0_0.length c0_0,.slice A0_1 l0_1.length c0_1,.int .i64 a0_2,.int .i64 a0_3,.int .i64 a0_4] 31 (0,0)) (by (with_reducible repeat (first|refine kN ?_ _|refine kD ?_|refine kA ?_ _));refine blk_far ?_ NB546_550.out _;(with_reducible repeat (first|refine kN ?_ _|refine kD ?_|refine kA ?_ _));exact BK546.out) hg (Kd.R_ne HO_551001.out BK546.out (by decide)));have n1_:=Am (blk_grown (g:=gb547) (o:=.cells #[.bool false,.slice none 0 0,.int .i64 0,.int .i64 0] 56 (0,0)) (by (with_reducible repeat (first|refine kN ?_ _|refine kD ?_|refine kA ?_ _));refine blk_far ?_ NB547_550.out _;(with_reducible repeat (first|refine kN ?_ _|refine kD ?_|refine kA ?_ _));exact BK547.out) hg (Kd.R_ne HO_551001.out BK547.out (by decide)));have n2_:=Am (blk_grown (g:=gb550) (o:=.cells #[.bool true,u551001,.int .i64 (wrap64 (x551002_2 + 1)),.int .i64 0] 56 (0,0)) (by (with_reducible repeat (first|refine kN ?_ _|refine kD ?_|refine kA ?_ _));refine blk_put (cs:=#[.bool true,u551001,.int .i64 x551002_2,.int .i64 0]) ?_ 2 _ rfl;(with_reducible repeat (first|refine kN ?_ _|refine kD ?_|refine kA ?_ _));exact BK550.out) hg (Kd.R_ne HO_551001.out BK550.out (by decide)));have n3_:=Am (hb);have n4_:=Am (ho);clear BK546;clear BK547;clear BK550;clear HB;clear HO_551001;have BK546:=n0_;have BK547:=n1_;have BK550:=n2_;have HB:=n3_;have HO566:=n4_;clear n0_ n1_ n2_ n3_ n4_;clear ho hb hg hat;obtain ⟨Ao75,co75,eo75⟩:=Kd.R_slice HO566.out;subst eo75;have hcz76_0 : w74.cell? ⟨gb550,0,none⟩ = some (.bool true):=(kC BK550.out 0).trans rfl;have hcz76_1 : w74.cell? ⟨gb550,1,none⟩ = some (u551001):=(kC BK550.out 1).trans rfl;have hcz76_2 : w74.cell? ⟨gb550,2,none⟩ = some (.int .i64 (wrap64 (x551002_2 + 1))):=(kC BK550.out 2).trans rfl;have hcz76_3 : w74.cell? ⟨gb550,3,none⟩ = some (.int .i64 0):=(kC BK550.out 3).trans rfl;have hfz76_0:=kF BK550.out 0;have hfz76_1:=kF BK550.out 1;have hfz76_2:=kF BK550.out 2;have hfz76_3:=kF BK550.out 3))
              go_roundg kj29
              case measure => have:=HJ4.out;have:=HK2.out;have:=HJ29.out;omega
              case rel => exact ⟨(wrap64 (x1_2 + x2_2)),(x2_2),(x1_2),(x11_2),(wrap64 (x36_2 + 1)),(y564),(wrap64 (x551002_2 + 1)),(.slice Ao75 y564.length co75),(by first|rfl|(simp;done)|(simp [*];done)),(by first|rfl|(simp;done)|(simp [*];done)),(by first|rfl|(simp;done)|(simp [*];done)),(by first|rfl|(simp;done)|(simp [*];done)),(by first|rfl|(simp;done)|(simp [*];done)),H',⟨by have:=HJ4.out;have:=HK2.out;have:=HJ29.out;omega⟩,⟨by (with_reducible repeat (first|apply Kd.R_alloc|apply Kd.R_drewN|apply Kd.R_drew));exact Kd.R_mono (Kd.R_far (p:=⟨gb550,1,none⟩) (Kd.R_types HO566.out BK550.out (by decide)) (fun _ hk => hk.2) (.slice Ao75 y564.length co75)) (fun _ hk => trivial)⟩,⟨by (with_reducible repeat (first|refine kN ?_ _|refine kD ?_|refine kA ?_ _));refine blk_far ?_ NB546_550.out _;(with_reducible repeat (first|refine kN ?_ _|refine kD ?_|refine kA ?_ _));exact BK546.out⟩,⟨by (with_reducible repeat (first|refine kN ?_ _|refine kD ?_|refine kA ?_ _));refine blk_far ?_ NB547_550.out _;(with_reducible repeat (first|refine kN ?_ _|refine kD ?_|refine kA ?_ _));exact BK547.out⟩,⟨by (with_reducible repeat (first|refine kN ?_ _|refine kD ?_|refine kA ?_ _));refine blk_put (cs:=#[.bool true,u551001,.int .i64 (wrap64 (x551002_2 + 1)),.int .i64 0]) ?_ 1 _ rfl;(with_reducible repeat (first|refine kN ?_ _|refine kD ?_|refine kA ?_ _));exact BK550.out⟩,⟨by repeat (first|(with_reducible first|exact HB.out|apply bA|apply bN|apply bD|refine bS ?_ GE546.out|refine bS ?_ GE547.out|refine bS ?_ GE550.out)|exact HB.out)⟩⟩
             ·rw [if_neg c70] at H
              exact absurd H (by simp)
        ·rw [if_neg c29] at H
         exact absurd H (by simp)
       ·rw [if_neg c28] at H
        exact absurd H (by simp)
      ·rw [if_neg c27] at H
       have c27b0 : decide (x36_2 < (l3.length : Int)) = false:=decide_eq_false c27
       clear c27
       simp only [Option.some.injEq,Prod.mk.injEq] at H
       obtain ⟨rfl,rfl,rfl,rfl⟩:=H
       have hnb77:=NB550_546.out
       have hnc77:=NB546_550.out
       have hnb78:=NB550_547.out
       have hnc78:=NB547_550.out
       have hcz79_0 : wr.cell? ⟨gb550,0,none⟩ = some (.bool true):=(kC BK550.out 0).trans rfl
       have hcz79_1 : wr.cell? ⟨gb550,1,none⟩ = some (u551001):=(kC BK550.out 1).trans rfl
       have hcz79_2 : wr.cell? ⟨gb550,2,none⟩ = some (.int .i64 x551002_2):=(kC BK550.out 2).trans rfl
       have hcz79_3 : wr.cell? ⟨gb550,3,none⟩ = some (.int .i64 0):=(kC BK550.out 3).trans rfl
       have hfz79_0:=kF BK550.out 0
       have hfz79_1:=kF BK550.out 1
       have hfz79_2:=kF BK550.out 2
       have hfz79_3:=kF BK550.out 3
       have hnb80:=NB547_546.out
       have hnc80:=NB546_547.out
       have hcz81_0 : wr.cell? ⟨gb547,0,none⟩ = some (.bool false):=(kC BK547.out 0).trans rfl
       have hcz81_1 : wr.cell? ⟨gb547,1,none⟩ = some (.slice none 0 0):=(kC BK547.out 1).trans rfl
       have hcz81_2 : wr.cell? ⟨gb547,2,none⟩ = some (.int .i64 0):=(kC BK547.out 2).trans rfl
       have hcz81_3 : wr.cell? ⟨gb547,3,none⟩ = some (.int .i64 0):=(kC BK547.out 3).trans rfl
       have hfz81_0:=kF BK547.out 0
       have hfz81_1:=kF BK547.out 1
       have hfz81_2:=kF BK547.out 2
       have hfz81_3:=kF BK547.out 3
       obtain ⟨Ao82,co82,eo82⟩:=Kd.R_slice HO_551001.out
       subst eo82
       go_wp2
       refine bodyPost_ret (results_cell_row rfl _ _ gb547 56 #[.bool true,.slice Ao82 x551001_2.length co82,.int .i64 x551002_2,.int .i64 x1_2] (0,0) _ rfl (by (with_reducible repeat (first|refine kN ?_ _|refine kD ?_|refine kA ?_ _));refine blk_put (cs:=#[.bool true,.slice Ao82 x551001_2.length co82,.int .i64 x551002_2,.int .i64 0]) ?_ 3 _ rfl;(with_reducible repeat (first|refine kN ?_ _|refine kD ?_|refine kA ?_ _));refine blk_put (cs:=#[.bool true,.slice Ao82 x551001_2.length co82,.int .i64 0,.int .i64 0]) ?_ 2 _ rfl;(with_reducible repeat (first|refine kN ?_ _|refine kD ?_|refine kA ?_ _));refine blk_put (cs:=#[.bool true,.slice none 0 0,.int .i64 0,.int .i64 0]) ?_ 1 _ rfl;(with_reducible repeat (first|refine kN ?_ _|refine kD ?_|refine kA ?_ _));refine blk_put (cs:=#[.bool false,.slice none 0 0,.int .i64 0,.int .i64 0]) ?_ 0 _ rfl;(with_reducible repeat (first|refine kN ?_ _|refine kD ?_|refine kA ?_ _));refine blk_far ?_ NB547_550.out _;(with_reducible repeat (first|refine kN ?_ _|refine kD ?_|refine kA ?_ _));exact BK547.out) Try.underlying56 rfl (by kernel_rfl)) rfl ?_
       exact ⟨_,by first|rfl|(simp [errW_none,errW_some] <;> rfl)|(simp [*,errW_none,errW_some] <;> rfl),by (with_reducible repeat (first|apply Kd.R_alloc|apply Kd.R_drewN|apply Kd.R_drew));exact Kd.R_mono (Kd.R_far (p:=⟨gb547,3,none⟩) (Kd.R_far (p:=⟨gb547,2,none⟩) (Kd.R_far (p:=⟨gb547,1,none⟩) (Kd.R_far (p:=⟨gb547,0,none⟩) (Kd.R_far (p:=⟨gb550,3,none⟩) (Kd.R_types (Kd.R_types HO_551001.out BK550.out (by decide)) BK547.out (by decide)) (fun _ hk => hk.1.2) (.int .i64 x1_2)) (fun _ hk => hk.2) (.bool true)) (fun _ hk => hk.2) (.slice Ao82 x551001_2.length co82)) (fun _ hk => hk.2) (.int .i64 x551002_2)) (fun _ hk => hk.2) (.int .i64 x1_2)) (fun _ hk => trivial),by repeat (first|(with_reducible first|exact HB.out|apply bA|apply bN|apply bD|refine bS ?_ GE546.out|refine bS ?_ GE547.out|refine bS ?_ GE550.out)|exact HB.out)⟩

end Go.Proofs.Ytgakkndbcilclaa.PA
