-- Written by a program of this session (wip/print/myprint.py) over the kit's print, with contracts of its own; not a text of print.sh's.
import Derived.Test.YtgakkndbcilclaaPAx0
import Derived.Test.YtgakkndbcilclaaPAx22
import Derived.Test.YtgakkndbcilclaaPAx27
import Derived.Test.YtgakkndbcilclaaPAx33
import Derived.Test.YtgakkndbcilclaaPAx34
namespace Go.Proofs.Ytgakkndbcilclaa.PA
open Go.RowKit Go.Proofs.YtgakkndbcilclaaW.PrintWords Go.Proofs.YtgakkndbcilclaaW.PrintLast Go.Proofs.YtgakkndbcilclaaW.PrintMore
attribute [local go_sem] max2_int min2_int max_two min_two   -- for this text's walks alone
set_option linter.unusedVariables false
set_option linter.unusedSimpArgs false

/-! ### impl_Watch: function 45 -/
mutual
def impl_Watch.j0 : Nat → Int → Int → List Int → Bool → List (S71) → List (S75) → Int → Int → Int → Option (Bool × List Int × Int × Int)
 | 0,_,_,_,_,_,_,_,_,_ => none
 | k + 1,x1,x2,x3,x23,x568000,x568001,x568002,x568003,x568004 => if x23 = true then (some (false,([] : List Int),0,0)) else (impl_Watch.l0 k x2 x1 0 x3 (x3.length : Int) 0 x568000 x568001 x568002 x568003 x568004 true ([] : List Int) 0 x1)
def impl_Watch.l0 : Nat → Int → Int → Int → List Int → Int → Int → List (S71) → List (S75) → Int → Int → Int → Bool → List Int → Int → Int → Option (Bool × List Int × Int × Int)
 | 0,_,_,_,_,_,_,_,_,_,_,_,_,_,_,_ => none
 | k + 1,x2,x10,x11,x28,x29,x30,x568000,x568001,x568002,x568003,x568004,x571000,x571001,x571002,x571003 => if x30 < x29 then (if 0 ≤ x30 then (if x30 < (x28.length : Int) then ((impl_speed.f (rd x28 x30)).bind fun t572 => (if t572 = true then ((impl_safe.f k x568000 x568001 x568002 x568003 x568004 x571003 (rd x28 x30)).bind fun t573 => (impl_Watch.j2 k x2 x10 x11 x30 (rd x28 x30) x28 x29 x30 t573 x568000 x568001 x568002 x568003 x568004 x571000 x571001 x571002 x571003)) else (impl_Watch.j2 k x2 x10 x11 x30 (rd x28 x30) x28 x29 x30 false x568000 x568001 x568002 x568003 x568004 x571000 x571001 x571002 x571003))) else (none)) else (none)) else (some (x571000,x571001,x571002,x571003))
def impl_Watch.j2 : Nat → Int → Int → Int → Int → Int → List Int → Int → Int → Bool → List (S71) → List (S75) → Int → Int → Int → Bool → List Int → Int → Int → Option (Bool × List Int × Int × Int)
 | 0,_,_,_,_,_,_,_,_,_,_,_,_,_,_,_,_,_,_ => none
 | k + 1,x2,x10,x11,x12,x13,x28,x29,x30,x51,x568000,x568001,x568002,x568003,x568004,x571000,x571001,x571002,x571003 => if x51 = true then (if x571001.length < 17592186044416 then (impl_Watch.l0 k x13 x571003 0 x28 x29 (wrap64 (x30 + 1)) x568000 x568001 x568002 x568003 x568004 x571000 (x571001 ++ [x13]) x571002 (wrap64 (x571003 + x13))) else (none)) else (if x12 = 0 then (if x571001.length < 17592186044416 then (impl_Watch.l0 k x2 x571003 0 x28 x29 (wrap64 (x30 + 1)) x568000 x568001 x568002 x568003 x568004 x571000 (x571001 ++ [x2]) (wrap64 (x571002 + 1)) (wrap64 (x571003 + x2))) else (none)) else (if x11 < x568004 then (if x571001.length < 17592186044416 then (impl_Watch.l0 k x2 x571003 (wrap64 (x11 + 1)) x28 x29 (wrap64 (x30 + 1)) x568000 x568001 x568002 x568003 x568004 x571000 (x571001 ++ [x2]) (wrap64 (x571002 + 1)) (wrap64 (x571003 + x2))) else (none)) else ((impl_brakeAt.f k x568000 x568001 x568002 x568003 x568004 x10).bind fun t583 => (if x571001.length < 17592186044416 then (impl_Watch.l0 k (mx (wrap64 (x2 - t583)) 0) x571003 x11 x28 x29 (wrap64 (x30 + 1)) x568000 x568001 x568002 x568003 x568004 x571000 (x571001 ++ [mx (wrap64 (x2 - t583)) 0]) (wrap64 (x571002 + 1)) (wrap64 (x571003 + (mx (wrap64 (x2 - t583)) 0)))) else (none)))))
end
def impl_Watch.f (k : Nat) (l0_0 : List (S71)) (l0_1 : List (S75)) (a0_2 : Int) (a0_3 : Int) (a0_4 : Int) (a1 : Int) (a2 : Int) (l3 : List Int) : Option (Bool × List Int × Int × Int):=if (l3.length : Int) > 500 then (impl_Watch.j0 k a1 a2 l3 true l0_0 l0_1 a0_2 a0_3 a0_4) else ((impl_Safe.f k l0_0 l0_1 a0_2 a0_3 a0_4 a1 a2).bind fun t569 => (impl_Watch.j0 k a1 a2 l3 (!t569) l0_0 l0_1 a0_2 a0_3 a0_4))
theorem impl_Watch.mono_l : ∀ k,(∀ y0 y1 y2 y3 y4 y5 y6 y7 y8,LeO (impl_Watch.j0 k y0 y1 y2 y3 y4 y5 y6 y7 y8) (impl_Watch.j0 (k + 1) y0 y1 y2 y3 y4 y5 y6 y7 y8))∧(∀ y0 y1 y2 y3 y4 y5 y6 y7 y8 y9 y10 y11 y12 y13 y14,LeO (impl_Watch.l0 k y0 y1 y2 y3 y4 y5 y6 y7 y8 y9 y10 y11 y12 y13 y14) (impl_Watch.l0 (k + 1) y0 y1 y2 y3 y4 y5 y6 y7 y8 y9 y10 y11 y12 y13 y14))∧(∀ y0 y1 y2 y3 y4 y5 y6 y7 y8 y9 y10 y11 y12 y13 y14 y15 y16 y17,LeO (impl_Watch.j2 k y0 y1 y2 y3 y4 y5 y6 y7 y8 y9 y10 y11 y12 y13 y14 y15 y16 y17) (impl_Watch.j2 (k + 1) y0 y1 y2 y3 y4 y5 y6 y7 y8 y9 y10 y11 y12 y13 y14 y15 y16 y17))
 | 0 => ⟨fun _ _ _ _ _ _ _ _ _ r h => by simp [impl_Watch.j0] at h,fun _ _ _ _ _ _ _ _ _ _ _ _ _ _ _ r h => by simp [impl_Watch.l0] at h,fun _ _ _ _ _ _ _ _ _ _ _ _ _ _ _ _ _ _ r h => by simp [impl_Watch.j2] at h⟩
 | k + 1 => by
  obtain ⟨ih0,ih1,ih2⟩:=impl_Watch.mono_l k
  refine ⟨?_,?_,?_⟩
  ·intro y0 y1 y2 y3 y4 y5 y6 y7 y8
   unfold impl_Watch.j0
   repeat' first
   | (with_reducible exact ih0 _ _ _ _ _ _ _ _ _)
   | (with_reducible exact ih1 _ _ _ _ _ _ _ _ _ _ _ _ _ _ _)
   | (with_reducible exact ih2 _ _ _ _ _ _ _ _ _ _ _ _ _ _ _ _ _ _)
   | (with_reducible exact impl_Safe.mono _ _ _ _ _ _ _ _)
   | (with_reducible exact impl_brakeAt.mono _ _ _ _ _ _ _)
   | (with_reducible exact impl_safe.mono _ _ _ _ _ _ _ _)
   | (with_reducible exact LeO.refl _)
   | (with_reducible exact LeO.none _)
   | (with_reducible refine LeO.ite ?_ ?_)
   | (with_reducible refine LeO.bind ?_ (fun _ => ?_))
   | exact ih0 _ _ _ _ _ _ _ _ _
   | exact ih1 _ _ _ _ _ _ _ _ _ _ _ _ _ _ _
   | exact ih2 _ _ _ _ _ _ _ _ _ _ _ _ _ _ _ _ _ _
   | exact impl_Safe.mono _ _ _ _ _ _ _ _
   | exact impl_brakeAt.mono _ _ _ _ _ _ _
   | exact impl_safe.mono _ _ _ _ _ _ _ _
   | exact LeO.none _
   | refine LeO.ite ?_ ?_
   | refine LeO.bind ?_ (fun _ => ?_)
  ·intro y0 y1 y2 y3 y4 y5 y6 y7 y8 y9 y10 y11 y12 y13 y14
   unfold impl_Watch.l0
   repeat' first
   | (with_reducible exact ih0 _ _ _ _ _ _ _ _ _)
   | (with_reducible exact ih1 _ _ _ _ _ _ _ _ _ _ _ _ _ _ _)
   | (with_reducible exact ih2 _ _ _ _ _ _ _ _ _ _ _ _ _ _ _ _ _ _)
   | (with_reducible exact impl_Safe.mono _ _ _ _ _ _ _ _)
   | (with_reducible exact impl_brakeAt.mono _ _ _ _ _ _ _)
   | (with_reducible exact impl_safe.mono _ _ _ _ _ _ _ _)
   | (with_reducible exact LeO.refl _)
   | (with_reducible exact LeO.none _)
   | (with_reducible refine LeO.ite ?_ ?_)
   | (with_reducible refine LeO.bind ?_ (fun _ => ?_))
   | exact ih0 _ _ _ _ _ _ _ _ _
   | exact ih1 _ _ _ _ _ _ _ _ _ _ _ _ _ _ _
   | exact ih2 _ _ _ _ _ _ _ _ _ _ _ _ _ _ _ _ _ _
   | exact impl_Safe.mono _ _ _ _ _ _ _ _
   | exact impl_brakeAt.mono _ _ _ _ _ _ _
   | exact impl_safe.mono _ _ _ _ _ _ _ _
   | exact LeO.none _
   | refine LeO.ite ?_ ?_
   | refine LeO.bind ?_ (fun _ => ?_)
  ·intro y0 y1 y2 y3 y4 y5 y6 y7 y8 y9 y10 y11 y12 y13 y14 y15 y16 y17
   unfold impl_Watch.j2
   repeat' first
   | (with_reducible exact ih0 _ _ _ _ _ _ _ _ _)
   | (with_reducible exact ih1 _ _ _ _ _ _ _ _ _ _ _ _ _ _ _)
   | (with_reducible exact ih2 _ _ _ _ _ _ _ _ _ _ _ _ _ _ _ _ _ _)
   | (with_reducible exact impl_Safe.mono _ _ _ _ _ _ _ _)
   | (with_reducible exact impl_brakeAt.mono _ _ _ _ _ _ _)
   | (with_reducible exact impl_safe.mono _ _ _ _ _ _ _ _)
   | (with_reducible exact LeO.refl _)
   | (with_reducible exact LeO.none _)
   | (with_reducible refine LeO.ite ?_ ?_)
   | (with_reducible refine LeO.bind ?_ (fun _ => ?_))
   | exact ih0 _ _ _ _ _ _ _ _ _
   | exact ih1 _ _ _ _ _ _ _ _ _ _ _ _ _ _ _
   | exact ih2 _ _ _ _ _ _ _ _ _ _ _ _ _ _ _ _ _ _
   | exact impl_Safe.mono _ _ _ _ _ _ _ _
   | exact impl_brakeAt.mono _ _ _ _ _ _ _
   | exact impl_safe.mono _ _ _ _ _ _ _ _
   | exact LeO.none _
   | refine LeO.ite ?_ ?_
   | refine LeO.bind ?_ (fun _ => ?_)
theorem impl_Watch.mono : ∀ a0 a1 a2 a3 a4 a5 a6 a7 k,LeO (impl_Watch.f k a0 a1 a2 a3 a4 a5 a6 a7) (impl_Watch.f (k + 1) a0 a1 a2 a3 a4 a5 a6 a7):=by
 intro a0 a1 a2 a3 a4 a5 a6 a7 k
 obtain ⟨ih0,ih1,ih2⟩:=impl_Watch.mono_l k
 unfold impl_Watch.f
 repeat' first
   | (with_reducible exact ih0 _ _ _ _ _ _ _ _ _)
   | (with_reducible exact ih1 _ _ _ _ _ _ _ _ _ _ _ _ _ _ _)
   | (with_reducible exact ih2 _ _ _ _ _ _ _ _ _ _ _ _ _ _ _ _ _ _)
   | (with_reducible exact impl_Safe.mono _ _ _ _ _ _ _ _)
   | (with_reducible exact impl_brakeAt.mono _ _ _ _ _ _ _)
   | (with_reducible exact impl_safe.mono _ _ _ _ _ _ _ _)
   | (with_reducible exact LeO.refl _)
   | (with_reducible exact LeO.none _)
   | (with_reducible refine LeO.ite ?_ ?_)
   | (with_reducible refine LeO.bind ?_ (fun _ => ?_))
   | exact ih0 _ _ _ _ _ _ _ _ _
   | exact ih1 _ _ _ _ _ _ _ _ _ _ _ _ _ _ _
   | exact ih2 _ _ _ _ _ _ _ _ _ _ _ _ _ _ _ _ _ _
   | exact impl_Safe.mono _ _ _ _ _ _ _ _
   | exact impl_brakeAt.mono _ _ _ _ _ _ _
   | exact impl_safe.mono _ _ _ _ _ _ _ _
   | exact LeO.none _
   | refine LeO.ite ?_ ?_
   | refine LeO.bind ?_ (fun _ => ?_)
set_option maxHeartbeats 8000000 in
set_option maxRecDepth 100000 in
theorem impl_Watch.calls (k : Nat) (A0_0 : Option Addr) (c0_0 : Nat) (l0_0 : List (S71)) (A0_1 : Option Addr) (c0_1 : Nat) (l0_1 : List (S75)) (a0_2 : Int) (a0_3 : Int) (a0_4 : Int) (a1 : Int) (a2 : Int) (A3 : Option Addr) (c3 : Nat) (l3 : List Int) (r1 : Bool) (r2 : List Int) (r3 : Int) (r4 : Int) (w : World) (hr0_0 : Kd.C k71 w A0_0 l0_0.length l0_0) (hc0_0 : l0_0.length ≤ c0_0) (hr0_1 : Kd.C k75 w A0_1 l0_1.length l0_1) (hc0_1 : l0_1.length ≤ c0_1) (hr3 : Kd.C (Kd.int .i64) w A3 l3.length l3) (hc3 : l3.length ≤ c3) (h : impl_Watch.f k l0_0 l0_1 a0_2 a0_3 a0_4 a1 a2 l3 = some (r1,r2,r3,r4)) :
  Calls Try.prog 45 #[.agg #[.slice A0_0 l0_0.length c0_0,.slice A0_1 l0_1.length c0_1,.int .i64 a0_2,.int .i64 a0_3,.int .i64 a0_4],.int .i64 a1,.int .i64 a2,.slice A3 l3.length c3] w fun e w' => ∃ v1_ : Value,e = .returned (.agg #[.bool r1,v1_,.int .i64 r3,.int .i64 r4])∧Kd.R (Kd.int .i64) 3 w' w.heap.size (fun _ => True) v1_ r2∧Below w.heap.size w w':=by
 have hu31:=Try.underlying31
 have hu56:=Try.underlying56
 have HR0_0:=Am hr0_0
 have HC0_0:=Am hc0_0
 clear hr0_0 hc0_0
 have HR0_1:=Am hr0_1
 have HC0_1:=Am hc0_1
 clear hr0_1 hc0_1
 have HR3:=Am hr3
 have HC3:=Am hc3
 clear hr3 hc3
 have HB:=Am (Below.refl w.heap.size w)
 have H : (if (l3.length : Int) > 500 then (impl_Watch.j0 k a1 a2 l3 true l0_0 l0_1 a0_2 a0_3 a0_4) else ((impl_Safe.f k l0_0 l0_1 a0_2 a0_3 a0_4 a1 a2).bind fun t569 => (impl_Watch.j0 k a1 a2 l3 (!t569) l0_0 l0_1 a0_2 a0_3 a0_4))) = some (r1,r2,r3,r4):=h
 clear h
 have HC5:=Am H
 clear H
 go_enter Try.func45,Try.ntmps45
 go_upto_region 1 with (first|((with_reducible refine gate_dst (N:=4) rfl ?_);refine box_event ?hg (N:=4) ?hd (cs:=#[.slice A0_0 l0_0.length c0_0,.slice A0_1 l0_1.length c0_1,.int .i64 a0_2,.int .i64 a0_3,.int .i64 a0_4]) (t:=31) ?hr ?_;(case hd => rfl);(case hg => rfl);(case hr => first|(go_simp;done)|(go_simp;rfl));intro gb567 hg w6 hbox hb;have n0_:=Am (below_step (by repeat (first|(with_reducible first|exact HB.out|apply bA|apply bN|apply bD)|exact HB.out)) hb);have n1_:=Am (hbox);have n2_:=Am ((by rw [hg];exact (below_size (by repeat (first|(with_reducible first|exact HB.out|apply bA|apply bN|apply bD)|exact HB.out))) : w.heap.size ≤ gb567));have n3_:=Am ((by rw [hg];exact (below_size (by repeat (first|(with_reducible first|exact HB.out|apply bA|apply bN|apply bD)|exact HB.out))) : w.heap.size ≤ gb567));clear HB;have HB:=n0_;have BK567:=n1_;have GW567:=n2_;have GE567:=n3_;clear n0_ n1_ n2_ n3_;clear hb hbox hg)|((with_reducible refine gate_dst (N:=8) rfl ?_);refine box_event ?hg (N:=8) ?hd (cs:=#[.bool false,.slice none 0 0,.int .i64 0,.int .i64 0]) (t:=56) ?hr ?_;(case hd => rfl);(case hg => rfl);(case hr => first|(go_simp;done)|(go_simp;rfl));intro gb568 hg w7 hbox hb;have n0_:=Am (blk_below (g:=gb567) (o:=.cells #[.slice A0_0 l0_0.length c0_0,.slice A0_1 l0_1.length c0_1,.int .i64 a0_2,.int .i64 a0_3,.int .i64 a0_4] 31 (0,0)) (by (with_reducible repeat (first|refine kN ?_ _|refine kD ?_|refine kA ?_ _));exact BK567.out) hb);have n1_:=Am (below_step (by repeat (first|(with_reducible first|exact HB.out|apply bA|apply bN|apply bD|refine bS ?_ GE567.out)|exact HB.out)) hb);have n2_:=Am (hbox);have n3_:=Am ((by rw [hg];exact (below_size (by repeat (first|(with_reducible first|exact HB.out|apply bA|apply bN|apply bD|refine bS ?_ GE567.out)|exact HB.out))) : w.heap.size ≤ gb568));have n4_:=Am ((by rw [hg];exact (below_size (by repeat (first|(with_reducible first|exact HB.out|apply bA|apply bN|apply bD|refine bS ?_ GE567.out)|exact HB.out))) : w.heap.size ≤ gb568));have n5_:=Am ((by rw [hg];exact Nat.ne_of_lt (blk_lt (g:=gb567) (o:=.cells #[.slice A0_0 l0_0.length c0_0,.slice A0_1 l0_1.length c0_1,.int .i64 a0_2,.int .i64 a0_3,.int .i64 a0_4] 31 (0,0)) (by (with_reducible repeat (first|refine kN ?_ _|refine kD ?_|refine kA ?_ _));exact BK567.out)) : gb567 ≠ gb568));have n6_:=Am ((by rw [hg];exact Nat.ne_of_gt (blk_lt (g:=gb567) (o:=.cells #[.slice A0_0 l0_0.length c0_0,.slice A0_1 l0_1.length c0_1,.int .i64 a0_2,.int .i64 a0_3,.int .i64 a0_4] 31 (0,0)) (by (with_reducible repeat (first|refine kN ?_ _|refine kD ?_|refine kA ?_ _));exact BK567.out)) : gb568 ≠ gb567));clear BK567;clear HB;have BK567:=n0_;have HB:=n1_;have BK568:=n2_;have GW568:=n3_;have GE568:=n4_;have NB567_568:=n5_;have NB568_567:=n6_;clear n0_ n1_ n2_ n3_ n4_ n5_ n6_;clear hb hbox hg))
 (try simp only [Act.put,List.setIfInBounds_toArray,List.set_cons_zero,List.set_cons_succ])
 go_cut [23] (fun v23 wc => ∃ (kq : Nat) (x23_4 : Bool),v23 = .bool x23_4∧As (impl_Watch.j0 kq a1 a2 l3 x23_4 l0_0 l0_1 a0_2 a0_3 a0_4 = some (r1,r2,r3,r4))∧As (kq ≤ k)∧As (wc.heap[gb567]? = some (.cells #[(.slice A0_0 l0_0.length c0_0),(.slice A0_1 l0_1.length c0_1),.int .i64 a0_2,.int .i64 a0_3,.int .i64 a0_4] 31 (0,0)))∧As (wc.heap[gb568]? = some (.cells #[.bool false,(.slice none 0 0),.int .i64 0,.int .i64 0] 56 (0,0)))∧As (Below w.heap.size w wc))
 case first =>
  have H:=HC5.out
  clear HC5
  by_cases c8 : (l3.length : Int) > 500
  ·rw [if_pos c8] at H
   have c8b0 : decide (500 < (l3.length : Int)) = true:=decide_eq_true c8
   have c8b1 : decide (500 < l3.length) = true:=decide_eq_true (by omega)
   clear c8
   (first|rw [c8b0]|(simp only [i64_w,i32_w];rw [c8b0])|skip)
   have H':=Am H
   clear H
   go_wp2
   go_meet
   case rel => exact ⟨_,(true),(by first|rfl|(simp;done)|(simp [*];done)),H',⟨by first|omega|exact Nat.le_refl _⟩,⟨by (with_reducible repeat (first|refine kN ?_ _|refine kD ?_|refine kA ?_ _));exact BK567.out⟩,⟨by (with_reducible repeat (first|refine kN ?_ _|refine kD ?_|refine kA ?_ _));exact BK568.out⟩,⟨by repeat (first|(with_reducible first|exact HB.out|apply bA|apply bN|apply bD|refine bS ?_ GE567.out|refine bS ?_ GE568.out)|exact HB.out)⟩⟩
  ·rw [if_neg c8] at H
   have c8b0 : decide (500 < (l3.length : Int)) = false:=decide_eq_false c8
   have c8b1 : decide (500 < l3.length) = false:=decide_eq_false (by omega)
   clear c8
   (first|rw [c8b0]|(simp only [i64_w,i32_w];rw [c8b0])|skip)
   replace H:=Option.bind_eq_some_iff.mp H
   obtain ⟨t569,A90,H⟩:=H
   replace H : (impl_Watch.j0 k a1 a2 l3 (!t569) l0_0 l0_1 a0_2 a0_3 a0_4) = some (r1,r2,r3,r4):=H
   have A9:=Am A90
   clear A90
   have H':=Am H
   clear H
   have hnb10:=NB567_568.out
   have hnc10:=NB568_567.out
   have hcz11_0 : w7.cell? ⟨gb567,0,none⟩ = some (.slice A0_0 l0_0.length c0_0):=(kC BK567.out 0).trans rfl
   have hcz11_1 : w7.cell? ⟨gb567,1,none⟩ = some (.slice A0_1 l0_1.length c0_1):=(kC BK567.out 1).trans rfl
   have hcz11_2 : w7.cell? ⟨gb567,2,none⟩ = some (.int .i64 a0_2):=(kC BK567.out 2).trans rfl
   have hcz11_3 : w7.cell? ⟨gb567,3,none⟩ = some (.int .i64 a0_3):=(kC BK567.out 3).trans rfl
   have hcz11_4 : w7.cell? ⟨gb567,4,none⟩ = some (.int .i64 a0_4):=(kC BK567.out 4).trans rfl
   have hfz11_0:=kF BK567.out 0
   have hfz11_1:=kF BK567.out 1
   have hfz11_2:=kF BK567.out 2
   have hfz11_3:=kF BK567.out 3
   have hfz11_4:=kF BK567.out 4
   go_wp2_with (first|(go_at_call 26;(with_reducible refine (impl_Safe.calls k _ _ l0_0 _ _ l0_1 a0_2 a0_3 a0_4 a1 a2 t569 _ ?side1 ?side2 ?side3 ?side4 A9.out).mono ?_);(case side1 => repeat (first|exact (Kd.C_below HR0_0.out HB.out)|(with_reducible refine Kd.C_alloc ?_ _)|(with_reducible refine Kd.C_drewN ?_ _)|(with_reducible refine Kd.C_drew ?_)));(case side2 => exact HC0_0.out);(case side3 => repeat (first|exact (Kd.C_below HR0_1.out HB.out)|(with_reducible refine Kd.C_alloc ?_ _)|(with_reducible refine Kd.C_drewN ?_ _)|(with_reducible refine Kd.C_drew ?_)));(case side4 => exact HC0_1.out);rintro e w12 ⟨rfl,hb⟩;have n0_:=Am (blk_below (g:=gb567) (o:=.cells #[.slice A0_0 l0_0.length c0_0,.slice A0_1 l0_1.length c0_1,.int .i64 a0_2,.int .i64 a0_3,.int .i64 a0_4] 31 (0,0)) (by (with_reducible repeat (first|refine kN ?_ _|refine kD ?_|refine kA ?_ _));exact BK567.out) hb);have n1_:=Am (blk_below (g:=gb568) (o:=.cells #[.bool false,.slice none 0 0,.int .i64 0,.int .i64 0] 56 (0,0)) (by (with_reducible repeat (first|refine kN ?_ _|refine kD ?_|refine kA ?_ _));exact BK568.out) hb);have n2_:=Am (below_step (by repeat (first|(with_reducible first|exact HB.out|apply bA|apply bN|apply bD|refine bS ?_ GE567.out|refine bS ?_ GE568.out)|exact HB.out)) hb);clear BK567;clear BK568;clear HB;have BK567:=n0_;have BK568:=n1_;have HB:=n2_;clear n0_ n1_ n2_;(try clear hb);(try clear hb2);(try clear hk);(try clear hi)))
   go_meet
   case rel => exact ⟨_,(!t569),(by first|rfl|(simp;done)|(simp [*];done)),H',⟨by first|omega|exact Nat.le_refl _⟩,⟨by (with_reducible repeat (first|refine kN ?_ _|refine kD ?_|refine kA ?_ _));exact BK567.out⟩,⟨by (with_reducible repeat (first|refine kN ?_ _|refine kD ?_|refine kA ?_ _));exact BK568.out⟩,⟨by repeat (first|(with_reducible first|exact HB.out|apply bA|apply bN|apply bD|refine bS ?_ GE567.out|refine bS ?_ GE568.out)|exact HB.out)⟩⟩
 case rest =>
  clear HC5
  try clear c1
  try clear p2
  try clear c3
  try clear c4
  try clear c8
  try clear c8b0
  try clear c8b1
  try clear c10
  try clear hcz11_0
  try clear hcz11_1
  try clear hcz11_2
  try clear hcz11_3
  try clear hcz11_4
  try clear hfz11_0
  try clear hfz11_1
  try clear hfz11_2
  try clear hfz11_3
  try clear hfz11_4
  obtain ⟨kq,x23_4,rfl,HA,HJ4,BK567,BK568,HB⟩:=hcut
  cases kq with
  | zero => exact absurd HA.out (by simp [impl_Watch.j0])
  | succ kj4 =>
   have H:=HA.out
   clear HA
   simp only [impl_Watch.j0] at H
   by_cases c13 : x23_4 = true
   ·subst c13
    have H1 : (some (false,([] : List Int),0,0)) = some (r1,r2,r3,r4):=by rw [if_pos rfl] at H;exact H
    clear H
    have H:=H1
    clear H1
    simp only [Option.some.injEq,Prod.mk.injEq] at H
    obtain ⟨rfl,rfl,rfl,rfl⟩:=H
    have hnb14:=NB568_567.out
    have hnc14:=NB567_568.out
    have hcz15_0 : wc.cell? ⟨gb568,0,none⟩ = some (.bool false):=(kC BK568.out 0).trans rfl
    have hcz15_1 : wc.cell? ⟨gb568,1,none⟩ = some (.slice none 0 0):=(kC BK568.out 1).trans rfl
    have hcz15_2 : wc.cell? ⟨gb568,2,none⟩ = some (.int .i64 0):=(kC BK568.out 2).trans rfl
    have hcz15_3 : wc.cell? ⟨gb568,3,none⟩ = some (.int .i64 0):=(kC BK568.out 3).trans rfl
    have hfz15_0:=kF BK568.out 0
    have hfz15_1:=kF BK568.out 1
    have hfz15_2:=kF BK568.out 2
    have hfz15_3:=kF BK568.out 3
    go_wp2
    refine bodyPost_ret (results_cell_row rfl _ _ gb568 56 #[.bool false,.slice none 0 0,.int .i64 0,.int .i64 0] (0,0) _ rfl (by (with_reducible repeat (first|refine kN ?_ _|refine kD ?_|refine kA ?_ _));refine blk_put (cs:=#[.bool false,.slice none 0 0,.int .i64 0,.int .i64 0]) ?_ 3 _ rfl;(with_reducible repeat (first|refine kN ?_ _|refine kD ?_|refine kA ?_ _));refine blk_put (cs:=#[.bool false,.slice none 0 0,.int .i64 0,.int .i64 0]) ?_ 2 _ rfl;(with_reducible repeat (first|refine kN ?_ _|refine kD ?_|refine kA ?_ _));refine blk_put (cs:=#[.bool false,.slice none 0 0,.int .i64 0,.int .i64 0]) ?_ 1 _ rfl;(with_reducible repeat (first|refine kN ?_ _|refine kD ?_|refine kA ?_ _));refine blk_put (cs:=#[.bool false,.slice none 0 0,.int .i64 0,.int .i64 0]) ?_ 0 _ rfl;(with_reducible repeat (first|refine kN ?_ _|refine kD ?_|refine kA ?_ _));exact BK568.out) Try.underlying56 rfl (by kernel_rfl)) rfl ?_
    exact ⟨_,by first|rfl|(simp [errW_none,errW_some] <;> rfl)|(simp [*,errW_none,errW_some] <;> rfl),by first|exact Kd.R_nil _ _ _ _ _|exact Kd.N_nil _ _ _ _ _|exact Kd.V_nil _ _ _ _ _|exact Kd.Q_nil _ _ _ _ _|exact Kd.S_nil _ _ _ _ _,by repeat (first|(with_reducible first|exact HB.out|apply bA|apply bN|apply bD|refine bS ?_ GE567.out|refine bS ?_ GE568.out)|exact HB.out)⟩
   ·replace c13:=Bool.eq_false_iff.mpr c13
    subst c13
    have H1 : (impl_Watch.l0 kj4 a2 a1 0 l3 (l3.length : Int) 0 l0_0 l0_1 a0_2 a0_3 a0_4 true ([] : List Int) 0 a1) = some (r1,r2,r3,r4):=by rw [if_neg (show ¬ (false = true) by decide)] at H;exact H
    clear H
    have H:=H1
    clear H1
    have H':=Am H
    clear H
    go_wp2_with (first|((with_reducible refine gate_dst (N:=9) rfl ?_);refine box_event ?hg (N:=9) ?hd (cs:=#[.bool false,.slice none 0 0,.int .i64 0,.int .i64 0]) (t:=56) ?hr ?_;(case hd => rfl);(case hg => rfl);(case hr => first|(go_simp;done)|(go_simp;rfl));intro gb570 hg w16 hbox hb;have n0_:=Am (blk_below (g:=gb567) (o:=.cells #[.slice A0_0 l0_0.length c0_0,.slice A0_1 l0_1.length c0_1,.int .i64 a0_2,.int .i64 a0_3,.int .i64 a0_4] 31 (0,0)) (by (with_reducible repeat (first|refine kN ?_ _|refine kD ?_|refine kA ?_ _));exact BK567.out) hb);have n1_:=Am (blk_below (g:=gb568) (o:=.cells #[.bool false,.slice none 0 0,.int .i64 0,.int .i64 0] 56 (0,0)) (by (with_reducible repeat (first|refine kN ?_ _|refine kD ?_|refine kA ?_ _));exact BK568.out) hb);have n2_:=Am (below_step (by repeat (first|(with_reducible first|exact HB.out|apply bA|apply bN|apply bD|refine bS ?_ GE567.out|refine bS ?_ GE568.out)|exact HB.out)) hb);have n3_:=Am (hbox);have n4_:=Am ((by rw [hg];exact (below_size (by repeat (first|(with_reducible first|exact HB.out|apply bA|apply bN|apply bD|refine bS ?_ GE567.out|refine bS ?_ GE568.out)|exact HB.out))) : w.heap.size ≤ gb570));have n5_:=Am ((by rw [hg];exact (below_size (by repeat (first|(with_reducible first|exact HB.out|apply bA|apply bN|apply bD|refine bS ?_ GE567.out|refine bS ?_ GE568.out)|exact HB.out))) : w.heap.size ≤ gb570));have n6_:=Am ((by rw [hg];exact Nat.ne_of_lt (blk_lt (g:=gb567) (o:=.cells #[.slice A0_0 l0_0.length c0_0,.slice A0_1 l0_1.length c0_1,.int .i64 a0_2,.int .i64 a0_3,.int .i64 a0_4] 31 (0,0)) (by (with_reducible repeat (first|refine kN ?_ _|refine kD ?_|refine kA ?_ _));exact BK567.out)) : gb567 ≠ gb570));have n7_:=Am ((by rw [hg];exact Nat.ne_of_gt (blk_lt (g:=gb567) (o:=.cells #[.slice A0_0 l0_0.length c0_0,.slice A0_1 l0_1.length c0_1,.int .i64 a0_2,.int .i64 a0_3,.int .i64 a0_4] 31 (0,0)) (by (with_reducible repeat (first|refine kN ?_ _|refine kD ?_|refine kA ?_ _));exact BK567.out)) : gb570 ≠ gb567));have n8_:=Am ((by rw [hg];exact Nat.ne_of_lt (blk_lt (g:=gb568) (o:=.cells #[.bool false,.slice none 0 0,.int .i64 0,.int .i64 0] 56 (0,0)) (by (with_reducible repeat (first|refine kN ?_ _|refine kD ?_|refine kA ?_ _));exact BK568.out)) : gb568 ≠ gb570));have n9_:=Am ((by rw [hg];exact Nat.ne_of_gt (blk_lt (g:=gb568) (o:=.cells #[.bool false,.slice none 0 0,.int .i64 0,.int .i64 0] 56 (0,0)) (by (with_reducible repeat (first|refine kN ?_ _|refine kD ?_|refine kA ?_ _));exact BK568.out)) : gb570 ≠ gb568));clear BK567;clear BK568;clear HB;have BK567:=n0_;have BK568:=n1_;have HB:=n2_;have BK570:=n3_;have GW570:=n4_;have GE570:=n5_;have NB567_570:=n6_;have NB570_567:=n7_;have NB568_570:=n8_;have NB570_568:=n9_;clear n0_ n1_ n2_ n3_ n4_ n5_ n6_ n7_ n8_ n9_;clear hb hbox hg;have hnb17:=NB570_567.out;have hnc17:=NB567_570.out;have hnb18:=NB570_568.out;have hnc18:=NB568_570.out;have hcz19_0 : w16.cell? ⟨gb570,0,none⟩ = some (.bool false):=(kC BK570.out 0).trans rfl;have hcz19_1 : w16.cell? ⟨gb570,1,none⟩ = some (.slice none 0 0):=(kC BK570.out 1).trans rfl;have hcz19_2 : w16.cell? ⟨gb570,2,none⟩ = some (.int .i64 0):=(kC BK570.out 2).trans rfl;have hcz19_3 : w16.cell? ⟨gb570,3,none⟩ = some (.int .i64 0):=(kC BK570.out 3).trans rfl;have hfz19_0:=kF BK570.out 0;have hfz19_1:=kF BK570.out 1;have hfz19_2:=kF BK570.out 2;have hfz19_3:=kF BK570.out 3))
    go_loopg [2,10,11,30] kj4 (fun kq v2 v10 v11 v30 w' => ∃ (x2_2 : Int) (x10_2 : Int) (x11_2 : Int) (x30_2 : Int) (x571001_2 : List Int) (x571002_2 : Int) (x571003_2 : Int) (u571001 : Value),v2 = .int .i64 x2_2∧v10 = .int .i64 x10_2∧v11 = .int .i64 x11_2∧v30 = .int .i64 x30_2∧As (impl_Watch.l0 kq x2_2 x10_2 x11_2 l3 (l3.length : Int) x30_2 l0_0 l0_1 a0_2 a0_3 a0_4 true x571001_2 x571002_2 x571003_2 = some (r1,r2,r3,r4))∧As (kq ≤ kj4)∧As (Kd.R (Kd.int .i64) 3 w' w.heap.size (fun _ => True) u571001 x571001_2)∧As (w'.heap[gb567]? = some (.cells #[(.slice A0_0 l0_0.length c0_0),(.slice A0_1 l0_1.length c0_1),.int .i64 a0_2,.int .i64 a0_3,.int .i64 a0_4] 31 (0,0)))∧As (w'.heap[gb568]? = some (.cells #[.bool false,(.slice none 0 0),.int .i64 0,.int .i64 0] 56 (0,0)))∧As (w'.heap[gb570]? = some (.cells #[.bool true,u571001,.int .i64 x571002_2,.int .i64 x571003_2] 56 (0,0)))∧As (Below w.heap.size w w'))
    case atStart => exact ⟨(a2),(a1),(0),(0),(([] : List Int)),(0),(a1),(.slice none 0 0),(by first|rfl|(simp;done)|(simp [*];done)),(by first|rfl|(simp;done)|(simp [*];done)),(by first|rfl|(simp;done)|(simp [*];done)),(by first|rfl|(simp;done)|(simp [*];done)),H',⟨Nat.le_refl _⟩,⟨by first|exact Kd.R_nil _ _ _ _ _|exact Kd.N_nil _ _ _ _ _|exact Kd.V_nil _ _ _ _ _|exact Kd.Q_nil _ _ _ _ _|exact Kd.S_nil _ _ _ _ _⟩,⟨by (with_reducible repeat (first|refine kN ?_ _|refine kD ?_|refine kA ?_ _));refine blk_far ?_ NB567_570.out _;(with_reducible repeat (first|refine kN ?_ _|refine kD ?_|refine kA ?_ _));refine blk_far ?_ NB567_570.out _;(with_reducible repeat (first|refine kN ?_ _|refine kD ?_|refine kA ?_ _));refine blk_far ?_ NB567_570.out _;(with_reducible repeat (first|refine kN ?_ _|refine kD ?_|refine kA ?_ _));refine blk_far ?_ NB567_570.out _;(with_reducible repeat (first|refine kN ?_ _|refine kD ?_|refine kA ?_ _));exact BK567.out⟩,⟨by (with_reducible repeat (first|refine kN ?_ _|refine kD ?_|refine kA ?_ _));refine blk_far ?_ NB568_570.out _;(with_reducible repeat (first|refine kN ?_ _|refine kD ?_|refine kA ?_ _));refine blk_far ?_ NB568_570.out _;(with_reducible repeat (first|refine kN ?_ _|refine kD ?_|refine kA ?_ _));refine blk_far ?_ NB568_570.out _;(with_reducible repeat (first|refine kN ?_ _|refine kD ?_|refine kA ?_ _));refine blk_far ?_ NB568_570.out _;(with_reducible repeat (first|refine kN ?_ _|refine kD ?_|refine kA ?_ _));exact BK568.out⟩,⟨by (with_reducible repeat (first|refine kN ?_ _|refine kD ?_|refine kA ?_ _));refine blk_put (cs:=#[.bool true,.slice none 0 0,.int .i64 0,.int .i64 0]) ?_ 3 _ rfl;(with_reducible repeat (first|refine kN ?_ _|refine kD ?_|refine kA ?_ _));refine blk_put (cs:=#[.bool true,.slice none 0 0,.int .i64 0,.int .i64 0]) ?_ 2 _ rfl;(with_reducible repeat (first|refine kN ?_ _|refine kD ?_|refine kA ?_ _));refine blk_put (cs:=#[.bool true,.slice none 0 0,.int .i64 0,.int .i64 0]) ?_ 1 _ rfl;(with_reducible repeat (first|refine kN ?_ _|refine kD ?_|refine kA ?_ _));refine blk_put (cs:=#[.bool false,.slice none 0 0,.int .i64 0,.int .i64 0]) ?_ 0 _ rfl;(with_reducible repeat (first|refine kN ?_ _|refine kD ?_|refine kA ?_ _));exact BK570.out⟩,⟨by repeat (first|(with_reducible first|exact HB.out|apply bA|apply bN|apply bD|refine bS ?_ GE567.out|refine bS ?_ GE568.out|refine bS ?_ GE570.out)|exact HB.out)⟩⟩
    case round =>
     clear H'
     try clear c1
     try clear p2
     try clear c3
     try clear c4
     try clear c8
     try clear c8b0
     try clear c8b1
     try clear c10
     try clear c13
     try clear c14
     try clear c17
     try clear c18
     try clear hcz11_0
     try clear hcz11_1
     try clear hcz11_2
     try clear hcz11_3
     try clear hcz11_4
     try clear hcz15_0
     try clear hcz15_1
     try clear hcz15_2
     try clear hcz15_3
     try clear hcz19_0
     try clear hcz19_1
     try clear hcz19_2
     try clear hcz19_3
     try clear hfz11_0
     try clear hfz11_1
     try clear hfz11_2
     try clear hfz11_3
     try clear hfz11_4
     try clear hfz15_0
     try clear hfz15_1
     try clear hfz15_2
     try clear hfz15_3
     try clear hfz19_0
     try clear hfz19_1
     try clear hfz19_2
     try clear hfz19_3
     try clear p2
     obtain ⟨x2_2,x10_2,x11_2,x30_2,x571001_2,x571002_2,x571003_2,u571001,rfl,rfl,rfl,rfl,HA,HK2,HO_571001,BK567,BK568,BK570,HB⟩:=hrel
     cases gk with
     | zero => exact absurd HA.out (by simp [impl_Watch.l0])
     | succ k2 =>
      have H:=HA.out
      clear HA
      simp only [impl_Watch.l0] at H
      by_cases c20 : x30_2 < (l3.length : Int)
      ·rw [if_pos c20] at H
       have c20b0 : decide (x30_2 < (l3.length : Int)) = true:=decide_eq_true c20
       clear c20
       by_cases c21 : 0 ≤ x30_2
       ·rw [if_pos c21] at H
        have c21b0 : decide (0 ≤ x30_2) = true:=decide_eq_true c21
        clear c21
        by_cases c22 : x30_2 < (l3.length : Int)
        ·rw [if_pos c22] at H
         have c22b0 : decide (x30_2 < (l3.length : Int)) = true:=decide_eq_true c22
         clear c22
         have HC23:=Am H
         clear H
         have p571 : 0 ≤ (x30_2 : Int):=of_decide_eq_true (by first|(with_reducible assumption)|assumption)
         have q571 : x30_2 < (l3.length : Int):=of_decide_eq_true (by first|(with_reducible assumption)|assumption)
         obtain ⟨ad571,e571,hx571_0⟩:=Kd.at_int HR3.out x30_2 p571 q571
         cases e571
         replace hx571_0:=(HB.out.cell (World.block_lt_of_cell? w _ hx571_0)).trans hx571_0
         replace p571:=eq_true p571
         replace q571:=eq_true q571
         go_upto_region 12 with (fail)
         go_cut [51] (fun v51 wc => ∃ (kq : Nat) (x51_22 : Bool),v51 = .bool x51_22∧As (impl_Watch.j2 kq x2_2 x10_2 x11_2 x30_2 (rd l3 x30_2) l3 (l3.length : Int) x30_2 x51_22 l0_0 l0_1 a0_2 a0_3 a0_4 true x571001_2 x571002_2 x571003_2 = some (r1,r2,r3,r4))∧As (kq ≤ k2)∧As (Kd.R (Kd.int .i64) 3 wc w.heap.size (fun _ => True) u571001 x571001_2)∧As (wc.heap[gb567]? = some (.cells #[(.slice A0_0 l0_0.length c0_0),(.slice A0_1 l0_1.length c0_1),.int .i64 a0_2,.int .i64 a0_3,.int .i64 a0_4] 31 (0,0)))∧As (wc.heap[gb568]? = some (.cells #[.bool false,(.slice none 0 0),.int .i64 0,.int .i64 0] 56 (0,0)))∧As (wc.heap[gb570]? = some (.cells #[.bool true,u571001,.int .i64 x571002_2,.int .i64 x571003_2] 56 (0,0)))∧As (Below w.heap.size w wc))
         case first =>
          have H:=HC23.out
          clear HC23
          replace H:=Option.bind_eq_some_iff.mp H
          obtain ⟨t572,A240,H⟩:=H
          replace H : (if t572 = true then ((impl_safe.f k2 l0_0 l0_1 a0_2 a0_3 a0_4 x571003_2 (rd l3 x30_2)).bind fun t573 => (impl_Watch.j2 k2 x2_2 x10_2 x11_2 x30_2 (rd l3 x30_2) l3 (l3.length : Int) x30_2 t573 l0_0 l0_1 a0_2 a0_3 a0_4 true x571001_2 x571002_2 x571003_2)) else (impl_Watch.j2 k2 x2_2 x10_2 x11_2 x30_2 (rd l3 x30_2) l3 (l3.length : Int) x30_2 false l0_0 l0_1 a0_2 a0_3 a0_4 true x571001_2 x571002_2 x571003_2)) = some (r1,r2,r3,r4):=H
          have A24:=Am A240
          clear A240
          by_cases c25 : t572 = true
          ·subst c25
           have H1 : ((impl_safe.f k2 l0_0 l0_1 a0_2 a0_3 a0_4 x571003_2 (rd l3 x30_2)).bind fun t573 => (impl_Watch.j2 k2 x2_2 x10_2 x11_2 x30_2 (rd l3 x30_2) l3 (l3.length : Int) x30_2 t573 l0_0 l0_1 a0_2 a0_3 a0_4 true x571001_2 x571002_2 x571003_2)) = some (r1,r2,r3,r4):=by rw [if_pos rfl] at H;exact H
           clear H
           have H:=H1
           clear H1
           replace H:=Option.bind_eq_some_iff.mp H
           obtain ⟨t573,A260,H⟩:=H
           replace H : (impl_Watch.j2 k2 x2_2 x10_2 x11_2 x30_2 (rd l3 x30_2) l3 (l3.length : Int) x30_2 t573 l0_0 l0_1 a0_2 a0_3 a0_4 true x571001_2 x571002_2 x571003_2) = some (r1,r2,r3,r4):=H
           have A26:=Am A260
           clear A260
           have H':=Am H
           clear H
           go_wp2_with (first|((with_reducible refine gate_callee (f:=74) rfl ?_);refine goesL_ (some 53) rfl rfl Try.func74 (by kernel_rfl) rfl #[.int .i64 (rd l3 x30_2)] rfl (by (try simp only [List.map_toArray,List.map_cons,List.map_nil]);first|done|rfl|(simp only [List.length_drop,List.length_take];rfl)) ?_;(with_reducible refine (impl_speed.calls (rd l3 x30_2) true _ A24.out).mono ?_);rintro e w' ⟨rfl,⟨nd,rfl⟩⟩;refine ⟨_,rfl,?_⟩;have hnb27:=NB567_568.out;have hnc27:=NB568_567.out;have hnb28:=NB567_570.out;have hnc28:=NB570_567.out;have hcz29_0 : wr.cell? ⟨gb567,0,none⟩ = some (.slice A0_0 l0_0.length c0_0):=(kC BK567.out 0).trans rfl;have hcz29_1 : wr.cell? ⟨gb567,1,none⟩ = some (.slice A0_1 l0_1.length c0_1):=(kC BK567.out 1).trans rfl;have hcz29_2 : wr.cell? ⟨gb567,2,none⟩ = some (.int .i64 a0_2):=(kC BK567.out 2).trans rfl;have hcz29_3 : wr.cell? ⟨gb567,3,none⟩ = some (.int .i64 a0_3):=(kC BK567.out 3).trans rfl;have hcz29_4 : wr.cell? ⟨gb567,4,none⟩ = some (.int .i64 a0_4):=(kC BK567.out 4).trans rfl;have hfz29_0:=kF BK567.out 0;have hfz29_1:=kF BK567.out 1;have hfz29_2:=kF BK567.out 2;have hfz29_3:=kF BK567.out 3;have hfz29_4:=kF BK567.out 4;have hnb30:=NB570_568.out;have hnc30:=NB568_570.out;have hcz31_0 : wr.cell? ⟨gb570,0,none⟩ = some (.bool true):=(kC BK570.out 0).trans rfl;have hcz31_1 : wr.cell? ⟨gb570,1,none⟩ = some (u571001):=(kC BK570.out 1).trans rfl;have hcz31_2 : wr.cell? ⟨gb570,2,none⟩ = some (.int .i64 x571002_2):=(kC BK570.out 2).trans rfl;have hcz31_3 : wr.cell? ⟨gb570,3,none⟩ = some (.int .i64 x571003_2):=(kC BK570.out 3).trans rfl;have hfz31_0:=kF BK570.out 0;have hfz31_1:=kF BK570.out 1;have hfz31_2:=kF BK570.out 2;have hfz31_3:=kF BK570.out 3)|(go_at_call 78;(with_reducible refine (impl_safe.calls k2 _ _ l0_0 _ _ l0_1 a0_2 a0_3 a0_4 x571003_2 (rd l3 x30_2) t573 _ ?side1 ?side2 ?side3 ?side4 A26.out).mono ?_);(case side1 => repeat (first|exact (Kd.C_below HR0_0.out (by repeat (first|(with_reducible first|exact HB.out|apply bA|apply bN|apply bD|refine bS ?_ GE567.out|refine bS ?_ GE568.out|refine bS ?_ GE570.out)|exact HB.out)))|(with_reducible refine Kd.C_alloc ?_ _)|(with_reducible refine Kd.C_drewN ?_ _)|(with_reducible refine Kd.C_drew ?_)));(case side2 => exact HC0_0.out);(case side3 => repeat (first|exact (Kd.C_below HR0_1.out (by repeat (first|(with_reducible first|exact HB.out|apply bA|apply bN|apply bD|refine bS ?_ GE567.out|refine bS ?_ GE568.out|refine bS ?_ GE570.out)|exact HB.out)))|(with_reducible refine Kd.C_alloc ?_ _)|(with_reducible refine Kd.C_drewN ?_ _)|(with_reducible refine Kd.C_drew ?_)));(case side4 => exact HC0_1.out);rintro e w32 ⟨rfl,hb⟩;have n0_:=Am (Kd.R_below (by (with_reducible repeat (first|apply Kd.R_alloc|apply Kd.R_drewN|apply Kd.R_drew));exact HO_571001.out) hb);have n1_:=Am (blk_below (g:=gb567) (o:=.cells #[.slice A0_0 l0_0.length c0_0,.slice A0_1 l0_1.length c0_1,.int .i64 a0_2,.int .i64 a0_3,.int .i64 a0_4] 31 (0,0)) (by (with_reducible repeat (first|refine kN ?_ _|refine kD ?_|refine kA ?_ _));exact BK567.out) hb);have n2_:=Am (blk_below (g:=gb568) (o:=.cells #[.bool false,.slice none 0 0,.int .i64 0,.int .i64 0] 56 (0,0)) (by (with_reducible repeat (first|refine kN ?_ _|refine kD ?_|refine kA ?_ _));exact BK568.out) hb);have n3_:=Am (blk_below (g:=gb570) (o:=.cells #[.bool true,u571001,.int .i64 x571002_2,.int .i64 x571003_2] 56 (0,0)) (by (with_reducible repeat (first|refine kN ?_ _|refine kD ?_|refine kA ?_ _));exact BK570.out) hb);have n4_:=Am (below_step (by repeat (first|(with_reducible first|exact HB.out|apply bA|apply bN|apply bD|refine bS ?_ GE567.out|refine bS ?_ GE568.out|refine bS ?_ GE570.out)|exact HB.out)) hb);clear HO_571001;clear BK567;clear BK568;clear BK570;clear HB;have HO_571001:=n0_;have BK567:=n1_;have BK568:=n2_;have BK570:=n3_;have HB:=n4_;clear n0_ n1_ n2_ n3_ n4_;(try clear hb);(try clear hb2);(try clear hk);(try clear hi)))
           go_meet
           case rel => exact ⟨_,(t573),(by first|rfl|(simp;done)|(simp [*];done)),H',⟨by have:=HJ4.out;have:=HK2.out;first|omega|exact Nat.le_refl _⟩,⟨by (with_reducible repeat (first|apply Kd.R_alloc|apply Kd.R_drewN|apply Kd.R_drew));exact HO_571001.out⟩,⟨by (with_reducible repeat (first|refine kN ?_ _|refine kD ?_|refine kA ?_ _));exact BK567.out⟩,⟨by (with_reducible repeat (first|refine kN ?_ _|refine kD ?_|refine kA ?_ _));exact BK568.out⟩,⟨by (with_reducible repeat (first|refine kN ?_ _|refine kD ?_|refine kA ?_ _));exact BK570.out⟩,⟨by repeat (first|(with_reducible first|exact HB.out|apply bA|apply bN|apply bD|refine bS ?_ GE567.out|refine bS ?_ GE568.out|refine bS ?_ GE570.out)|exact HB.out)⟩⟩
          ·replace c25:=Bool.eq_false_iff.mpr c25
           subst c25
           have H1 : (impl_Watch.j2 k2 x2_2 x10_2 x11_2 x30_2 (rd l3 x30_2) l3 (l3.length : Int) x30_2 false l0_0 l0_1 a0_2 a0_3 a0_4 true x571001_2 x571002_2 x571003_2) = some (r1,r2,r3,r4):=by rw [if_neg (show ¬ (false = true) by decide)] at H;exact H
           clear H
           have H:=H1
           clear H1
           have H':=Am H
           clear H
           go_wp2_with (first|((with_reducible refine gate_callee (f:=74) rfl ?_);refine goesL_ (some 53) rfl rfl Try.func74 (by kernel_rfl) rfl #[.int .i64 (rd l3 x30_2)] rfl (by (try simp only [List.map_toArray,List.map_cons,List.map_nil]);first|done|rfl|(simp only [List.length_drop,List.length_take];rfl)) ?_;(with_reducible refine (impl_speed.calls (rd l3 x30_2) false _ A24.out).mono ?_);rintro e w' ⟨rfl,⟨nd,rfl⟩⟩;refine ⟨_,rfl,?_⟩))
           go_meet
           case rel => exact ⟨_,(false),(by first|rfl|(simp;done)|(simp [*];done)),H',⟨by have:=HJ4.out;have:=HK2.out;first|omega|exact Nat.le_refl _⟩,⟨by (with_reducible repeat (first|apply Kd.R_alloc|apply Kd.R_drewN|apply Kd.R_drew));exact HO_571001.out⟩,⟨by (with_reducible repeat (first|refine kN ?_ _|refine kD ?_|refine kA ?_ _));exact BK567.out⟩,⟨by (with_reducible repeat (first|refine kN ?_ _|refine kD ?_|refine kA ?_ _));exact BK568.out⟩,⟨by (with_reducible repeat (first|refine kN ?_ _|refine kD ?_|refine kA ?_ _));exact BK570.out⟩,⟨by repeat (first|(with_reducible first|exact HB.out|apply bA|apply bN|apply bD|refine bS ?_ GE567.out|refine bS ?_ GE568.out|refine bS ?_ GE570.out)|exact HB.out)⟩⟩
         case rest =>
          clear HC23
          try clear c1
          try clear c2
          try clear p2
          try clear c3
          try clear c4
          try clear p5
          try clear q5
          try clear hx5
          try clear c7
          try clear c8
          try clear c8b0
          try clear c8b1
          try clear c10
          try clear c13
          try clear c14
          try clear c17
          try clear c18
          try clear c20
          try clear c20b0
          try clear c21
          try clear c21b0
          try clear c22
          try clear c22b0
          try clear c25
          try clear c27
          try clear c28
          try clear c30
          try clear hcz11_0
          try clear hcz11_1
          try clear hcz11_2
          try clear hcz11_3
          try clear hcz11_4
          try clear hcz15_0
          try clear hcz15_1
          try clear hcz15_2
          try clear hcz15_3
          try clear hcz19_0
          try clear hcz19_1
          try clear hcz19_2
          try clear hcz19_3
          try clear hcz29_0
          try clear hcz29_1
          try clear hcz29_2
          try clear hcz29_3
          try clear hcz29_4
          try clear hcz31_0
          try clear hcz31_1
          try clear hcz31_2
          try clear hcz31_3
          try clear hfz11_0
          try clear hfz11_1
          try clear hfz11_2
          try clear hfz11_3
          try clear hfz11_4
          try clear hfz15_0
          try clear hfz15_1
          try clear hfz15_2
          try clear hfz15_3
          try clear hfz19_0
          try clear hfz19_1
          try clear hfz19_2
          try clear hfz19_3
          try clear hfz29_0
          try clear hfz29_1
          try clear hfz29_2
          try clear hfz29_3
          try clear hfz29_4
          try clear hfz31_0
          try clear hfz31_1
          try clear hfz31_2
          try clear hfz31_3
          try clear hx571_0
          try clear p2
          try clear p571
          try clear q571
          obtain ⟨kq,x51_22,rfl,HA,HJ22,HO_571001,BK567,BK568,BK570,HB⟩:=hcut
          cases kq with
          | zero => exact absurd HA.out (by simp [impl_Watch.j2])
          | succ kj22 =>
           have H:=HA.out
           clear HA
           simp only [impl_Watch.j2] at H
           by_cases c33 : x51_22 = true
           ·subst c33
            have H1 : (if x571001_2.length < 17592186044416 then (impl_Watch.l0 kj22 (rd l3 x30_2) x571003_2 0 l3 (l3.length : Int) (wrap64 (x30_2 + 1)) l0_0 l0_1 a0_2 a0_3 a0_4 true (x571001_2 ++ [(rd l3 x30_2)]) x571002_2 (wrap64 (x571003_2 + (rd l3 x30_2)))) else (none)) = some (r1,r2,r3,r4):=by rw [if_pos rfl] at H;exact H
            clear H
            have H:=H1
            clear H1
            by_cases c34 : x571001_2.length < 17592186044416
            ·rw [if_pos c34] at H
             have LMc34:=Am c34
             clear c34
             obtain ⟨y574,hy574⟩ : ∃ y_ : List Int,y_ = (x571001_2 ++ [(rd l3 x30_2)]):=⟨_,rfl⟩
             replace H : (impl_Watch.l0 kj22 (rd l3 x30_2) x571003_2 0 l3 (l3.length : Int) (wrap64 (x30_2 + 1)) l0_0 l0_1 a0_2 a0_3 a0_4 true y574 x571002_2 (wrap64 (x571003_2 + (rd l3 x30_2)))) = some (r1,r2,r3,r4):=by first|(rw [hy574];with_reducible exact H)|(have H2_:=(Option.bind_some _ _).symm.trans H;rw [hy574];with_reducible exact H2_)|(have H2_:=(Option.bind_some _ _).symm.trans H;with_reducible exact H2_)|with_reducible exact H|(rw [hy574];exact H)|exact H
             have Ny574:=Am hy574
             clear hy574
             have H':=Am H
             clear H
             have hnb35:=NB570_567.out
             have hnc35:=NB567_570.out
             have hnb36:=NB570_568.out
             have hnc36:=NB568_570.out
             have hcz37_0 : wc.cell? ⟨gb570,0,none⟩ = some (.bool true):=(kC BK570.out 0).trans rfl
             have hcz37_1 : wc.cell? ⟨gb570,1,none⟩ = some (u571001):=(kC BK570.out 1).trans rfl
             have hcz37_2 : wc.cell? ⟨gb570,2,none⟩ = some (.int .i64 x571002_2):=(kC BK570.out 2).trans rfl
             have hcz37_3 : wc.cell? ⟨gb570,3,none⟩ = some (.int .i64 x571003_2):=(kC BK570.out 3).trans rfl
             have hfz37_0:=kF BK570.out 0
             have hfz37_1:=kF BK570.out 1
             have hfz37_2:=kF BK570.out 2
             have hfz37_3:=kF BK570.out 3
             go_wp2_with (first|((with_reducible refine gate_builtin (b:=.append) (xs:=#[.tmp 77,.tmp 79]) rfl ?_);at_builtin;refine Kd.R_append (Kd.int .i64) (w0:=w) w.heap.size rfl (.tmp 77) (.tmp 79) 40 3 (.int .i64 0) 8 rfl Try.underlying40 info3 rfl (by decide) (by omega) u571001 x571001_2 (rd l3 x30_2) [.int .i64 (rd l3 x30_2)] (fun _ => True) (fun _ => False) rfl (by first|(go_simp;done)|(go_simp;rfl)) ?aP (fun _ hk => hk.elim) ?aF ?aO ?aB ?aS ?aL ?_;(case aP => exact rfl);(case aB => exact (by repeat (first|(with_reducible first|exact HB.out|apply bA|apply bN|apply bD|refine bS ?_ GE567.out|refine bS ?_ GE568.out|refine bS ?_ GE570.out)|exact HB.out)));(case aF => exact (fun _ _ => trivial));(case aO => exact (by (with_reducible repeat (first|apply Kd.R_alloc|apply Kd.R_drewN|apply Kd.R_drew));exact Kd.R_mono (Kd.R_far (p:=⟨gb570,3,none⟩) (Kd.R_types HO_571001.out BK570.out (by decide)) (fun _ hk => hk.2) (.int .i64 (wrap64 (x571003_2 + (rd l3 x30_2))))) (fun _ hk => trivial)));(case aS => exact (below_size (by repeat (first|(with_reducible first|exact HB.out|apply bA|apply bN|apply bD|refine bS ?_ GE567.out|refine bS ?_ GE568.out|refine bS ?_ GE570.out)|exact HB.out))));(case aL => have:=LMc34.out;omega);intro v575 w38 ho hb hg hat;rw [← Ny574.out] at ho;have n0_:=Am (blk_grown (g:=gb567) (o:=.cells #[.slice A0_0 l0_0.length c0_0,.slice A0_1 l0_1.length c0_1,.int .i64 a0_2,.int .i64 a0_3,.int .i64 a0_4] 31 (0,0)) (by (with_reducible repeat (first|refine kN ?_ _|refine kD ?_|refine kA ?_ _));refine blk_far ?_ NB567_570.out _;(with_reducible repeat (first|refine kN ?_ _|refine kD ?_|refine kA ?_ _));exact BK567.out) hg (Kd.R_ne HO_571001.out BK567.out (by decide)));have n1_:=Am (blk_grown (g:=gb568) (o:=.cells #[.bool false,.slice none 0 0,.int .i64 0,.int .i64 0] 56 (0,0)) (by (with_reducible repeat (first|refine kN ?_ _|refine kD ?_|refine kA ?_ _));refine blk_far ?_ NB568_570.out _;(with_reducible repeat (first|refine kN ?_ _|refine kD ?_|refine kA ?_ _));exact BK568.out) hg (Kd.R_ne HO_571001.out BK568.out (by decide)));have n2_:=Am (blk_grown (g:=gb570) (o:=.cells #[.bool true,u571001,.int .i64 x571002_2,.int .i64 (wrap64 (x571003_2 + (rd l3 x30_2)))] 56 (0,0)) (by (with_reducible repeat (first|refine kN ?_ _|refine kD ?_|refine kA ?_ _));refine blk_put (cs:=#[.bool true,u571001,.int .i64 x571002_2,.int .i64 x571003_2]) ?_ 3 _ rfl;(with_reducible repeat (first|refine kN ?_ _|refine kD ?_|refine kA ?_ _));exact BK570.out) hg (Kd.R_ne HO_571001.out BK570.out (by decide)));have n3_:=Am (hb);have n4_:=Am (ho);clear BK567;clear BK568;clear BK570;clear HB;clear HO_571001;have BK567:=n0_;have BK568:=n1_;have BK570:=n2_;have HB:=n3_;have HO576:=n4_;clear n0_ n1_ n2_ n3_ n4_;clear ho hb hg hat;obtain ⟨Ao39,co39,eo39⟩:=Kd.R_slice HO576.out;subst eo39;have hcz40_0 : w38.cell? ⟨gb570,0,none⟩ = some (.bool true):=(kC BK570.out 0).trans rfl;have hcz40_1 : w38.cell? ⟨gb570,1,none⟩ = some (u571001):=(kC BK570.out 1).trans rfl;have hcz40_2 : w38.cell? ⟨gb570,2,none⟩ = some (.int .i64 x571002_2):=(kC BK570.out 2).trans rfl;have hcz40_3 : w38.cell? ⟨gb570,3,none⟩ = some (.int .i64 (wrap64 (x571003_2 + (rd l3 x30_2)))):=(kC BK570.out 3).trans rfl;have hfz40_0:=kF BK570.out 0;have hfz40_1:=kF BK570.out 1;have hfz40_2:=kF BK570.out 2;have hfz40_3:=kF BK570.out 3))
             go_roundg kj22
             case measure => have:=HJ4.out;have:=HK2.out;have:=HJ22.out;omega
             case rel => exact ⟨((rd l3 x30_2)),(x571003_2),(0),(wrap64 (x30_2 + 1)),(y574),(x571002_2),(wrap64 (x571003_2 + (rd l3 x30_2))),(.slice Ao39 y574.length co39),(by first|rfl|(simp;done)|(simp [*];done)),(by first|rfl|(simp;done)|(simp [*];done)),(by first|rfl|(simp;done)|(simp [*];done)),(by first|rfl|(simp;done)|(simp [*];done)),H',⟨by have:=HJ4.out;have:=HK2.out;have:=HJ22.out;omega⟩,⟨by (with_reducible repeat (first|apply Kd.R_alloc|apply Kd.R_drewN|apply Kd.R_drew));exact Kd.R_mono (Kd.R_far (p:=⟨gb570,1,none⟩) (Kd.R_types HO576.out BK570.out (by decide)) (fun _ hk => hk.2) (.slice Ao39 y574.length co39)) (fun _ hk => trivial)⟩,⟨by (with_reducible repeat (first|refine kN ?_ _|refine kD ?_|refine kA ?_ _));refine blk_far ?_ NB567_570.out _;(with_reducible repeat (first|refine kN ?_ _|refine kD ?_|refine kA ?_ _));exact BK567.out⟩,⟨by (with_reducible repeat (first|refine kN ?_ _|refine kD ?_|refine kA ?_ _));refine blk_far ?_ NB568_570.out _;(with_reducible repeat (first|refine kN ?_ _|refine kD ?_|refine kA ?_ _));exact BK568.out⟩,⟨by (with_reducible repeat (first|refine kN ?_ _|refine kD ?_|refine kA ?_ _));refine blk_put (cs:=#[.bool true,u571001,.int .i64 x571002_2,.int .i64 (wrap64 (x571003_2 + (rd l3 x30_2)))]) ?_ 1 _ rfl;(with_reducible repeat (first|refine kN ?_ _|refine kD ?_|refine kA ?_ _));exact BK570.out⟩,⟨by repeat (first|(with_reducible first|exact HB.out|apply bA|apply bN|apply bD|refine bS ?_ GE567.out|refine bS ?_ GE568.out|refine bS ?_ GE570.out)|exact HB.out)⟩⟩
            ·rw [if_neg c34] at H
             exact absurd H (by simp)
           ·replace c33:=Bool.eq_false_iff.mpr c33
            subst c33
            have H1 : (if x30_2 = 0 then (if x571001_2.length < 17592186044416 then (impl_Watch.l0 kj22 x2_2 x571003_2 0 l3 (l3.length : Int) (wrap64 (x30_2 + 1)) l0_0 l0_1 a0_2 a0_3 a0_4 true (x571001_2 ++ [x2_2]) (wrap64 (x571002_2 + 1)) (wrap64 (x571003_2 + x2_2))) else (none)) else (if x11_2 < a0_4 then (if x571001_2.length < 17592186044416 then (impl_Watch.l0 kj22 x2_2 x571003_2 (wrap64 (x11_2 + 1)) l3 (l3.length : Int) (wrap64 (x30_2 + 1)) l0_0 l0_1 a0_2 a0_3 a0_4 true (x571001_2 ++ [x2_2]) (wrap64 (x571002_2 + 1)) (wrap64 (x571003_2 + x2_2))) else (none)) else ((impl_brakeAt.f kj22 l0_0 l0_1 a0_2 a0_3 a0_4 x10_2).bind fun t583 => (if x571001_2.length < 17592186044416 then (impl_Watch.l0 kj22 (mx (wrap64 (x2_2 - t583)) 0) x571003_2 x11_2 l3 (l3.length : Int) (wrap64 (x30_2 + 1)) l0_0 l0_1 a0_2 a0_3 a0_4 true (x571001_2 ++ [mx (wrap64 (x2_2 - t583)) 0]) (wrap64 (x571002_2 + 1)) (wrap64 (x571003_2 + (mx (wrap64 (x2_2 - t583)) 0)))) else (none))))) = some (r1,r2,r3,r4):=by rw [if_neg (show ¬ (false = true) by decide)] at H;exact H
            clear H
            have H:=H1
            clear H1
            by_cases c41 : x30_2 = 0
            ·rw [if_pos c41] at H
             have c41b0 : (x30_2 == 0) = true:=beq_iff_eq.mpr c41
             have c41b1 : (x30_2 != 0) = false:=bne_eq_false_iff_eq.mpr c41
             clear c41
             by_cases c42 : x571001_2.length < 17592186044416
             ·rw [if_pos c42] at H
              have LMc42:=Am c42
              clear c42
              obtain ⟨y577,hy577⟩ : ∃ y_ : List Int,y_ = (x571001_2 ++ [x2_2]):=⟨_,rfl⟩
              replace H : (impl_Watch.l0 kj22 x2_2 x571003_2 0 l3 (l3.length : Int) (wrap64 (x30_2 + 1)) l0_0 l0_1 a0_2 a0_3 a0_4 true y577 (wrap64 (x571002_2 + 1)) (wrap64 (x571003_2 + x2_2))) = some (r1,r2,r3,r4):=by first|(rw [hy577];with_reducible exact H)|(have H2_:=(Option.bind_some _ _).symm.trans H;rw [hy577];with_reducible exact H2_)|(have H2_:=(Option.bind_some _ _).symm.trans H;with_reducible exact H2_)|with_reducible exact H|(rw [hy577];exact H)|exact H
              have Ny577:=Am hy577
              clear hy577
              have H':=Am H
              clear H
              have hnb43:=NB570_567.out
              have hnc43:=NB567_570.out
              have hnb44:=NB570_568.out
              have hnc44:=NB568_570.out
              have hcz45_0 : wc.cell? ⟨gb570,0,none⟩ = some (.bool true):=(kC BK570.out 0).trans rfl
              have hcz45_1 : wc.cell? ⟨gb570,1,none⟩ = some (u571001):=(kC BK570.out 1).trans rfl
              have hcz45_2 : wc.cell? ⟨gb570,2,none⟩ = some (.int .i64 x571002_2):=(kC BK570.out 2).trans rfl
              have hcz45_3 : wc.cell? ⟨gb570,3,none⟩ = some (.int .i64 x571003_2):=(kC BK570.out 3).trans rfl
              have hfz45_0:=kF BK570.out 0
              have hfz45_1:=kF BK570.out 1
              have hfz45_2:=kF BK570.out 2
              have hfz45_3:=kF BK570.out 3
              go_wp2_with (first|((with_reducible refine gate_builtin (b:=.append) (xs:=#[.tmp 77,.tmp 79]) rfl ?_);at_builtin;refine Kd.R_append (Kd.int .i64) (w0:=w) w.heap.size rfl (.tmp 77) (.tmp 79) 40 3 (.int .i64 0) 8 rfl Try.underlying40 info3 rfl (by decide) (by omega) u571001 x571001_2 x2_2 [.int .i64 x2_2] (fun _ => True) (fun _ => False) rfl (by first|(go_simp;done)|(go_simp;rfl)) ?aP (fun _ hk => hk.elim) ?aF ?aO ?aB ?aS ?aL ?_;(case aP => exact rfl);(case aB => exact (by repeat (first|(with_reducible first|exact HB.out|apply bA|apply bN|apply bD|refine bS ?_ GE567.out|refine bS ?_ GE568.out|refine bS ?_ GE570.out)|exact HB.out)));(case aF => exact (fun _ _ => trivial));(case aO => exact (by (with_reducible repeat (first|apply Kd.R_alloc|apply Kd.R_drewN|apply Kd.R_drew));exact Kd.R_mono (Kd.R_far (p:=⟨gb570,3,none⟩) (Kd.R_far (p:=⟨gb570,2,none⟩) (Kd.R_types HO_571001.out BK570.out (by decide)) (fun _ hk => hk.2) (.int .i64 (wrap64 (x571002_2 + 1)))) (fun _ hk => hk.2) (.int .i64 (wrap64 (x571003_2 + x2_2)))) (fun _ hk => trivial)));(case aS => exact (below_size (by repeat (first|(with_reducible first|exact HB.out|apply bA|apply bN|apply bD|refine bS ?_ GE567.out|refine bS ?_ GE568.out|refine bS ?_ GE570.out)|exact HB.out))));(case aL => have:=LMc42.out;omega);intro v578 w46 ho hb hg hat;rw [← Ny577.out] at ho;have n0_:=Am (blk_grown (g:=gb567) (o:=.cells #[.slice A0_0 l0_0.length c0_0,.slice A0_1 l0_1.length c0_1,.int .i64 a0_2,.int .i64 a0_3,.int .i64 a0_4] 31 (0,0)) (by (with_reducible repeat (first|refine kN ?_ _|refine kD ?_|refine kA ?_ _));refine blk_far ?_ NB567_570.out _;(with_reducible repeat (first|refine kN ?_ _|refine kD ?_|refine kA ?_ _));refine blk_far ?_ NB567_570.out _;(with_reducible repeat (first|refine kN ?_ _|refine kD ?_|refine kA ?_ _));exact BK567.out) hg (Kd.R_ne HO_571001.out BK567.out (by decide)));have n1_:=Am (blk_grown (g:=gb568) (o:=.cells #[.bool false,.slice none 0 0,.int .i64 0,.int .i64 0] 56 (0,0)) (by (with_reducible repeat (first|refine kN ?_ _|refine kD ?_|refine kA ?_ _));refine blk_far ?_ NB568_570.out _;(with_reducible repeat (first|refine kN ?_ _|refine kD ?_|refine kA ?_ _));refine blk_far ?_ NB568_570.out _;(with_reducible repeat (first|refine kN ?_ _|refine kD ?_|refine kA ?_ _));exact BK568.out) hg (Kd.R_ne HO_571001.out BK568.out (by decide)));have n2_:=Am (blk_grown (g:=gb570) (o:=.cells #[.bool true,u571001,.int .i64 (wrap64 (x571002_2 + 1)),.int .i64 (wrap64 (x571003_2 + x2_2))] 56 (0,0)) (by (with_reducible repeat (first|refine kN ?_ _|refine kD ?_|refine kA ?_ _));refine blk_put (cs:=#[.bool true,u571001,.int .i64 (wrap64 (x571002_2 + 1)),.int .i64 x571003_2]) ?_ 3 _ rfl;(with_reducible repeat (first|refine kN ?_ _|refine kD ?_|refine kA ?_ _));refine blk_put (cs:=#[.bool true,u571001,.int .i64 x571002_2,.int .i64 x571003_2]) ?_ 2 _ rfl;(with_reducible repeat (first|refine kN ?_ _|refine kD ?_|refine kA ?_ _));exact BK570.out) hg (Kd.R_ne HO_571001.out BK570.out (by decide)));have n3_:=Am (hb);have n4_:=Am (ho);clear BK567;clear BK568;clear BK570;clear HB;clear HO_571001;have BK567:=n0_;have BK568:=n1_;have BK570:=n2_;have HB:=n3_;have HO579:=n4_;clear n0_ n1_ n2_ n3_ n4_;clear ho hb hg hat;obtain ⟨Ao47,co47,eo47⟩:=Kd.R_slice HO579.out;subst eo47;have hcz48_0 : w46.cell? ⟨gb570,0,none⟩ = some (.bool true):=(kC BK570.out 0).trans rfl;have hcz48_1 : w46.cell? ⟨gb570,1,none⟩ = some (u571001):=(kC BK570.out 1).trans rfl;have hcz48_2 : w46.cell? ⟨gb570,2,none⟩ = some (.int .i64 (wrap64 (x571002_2 + 1))):=(kC BK570.out 2).trans rfl;have hcz48_3 : w46.cell? ⟨gb570,3,none⟩ = some (.int .i64 (wrap64 (x571003_2 + x2_2))):=(kC BK570.out 3).trans rfl;have hfz48_0:=kF BK570.out 0;have hfz48_1:=kF BK570.out 1;have hfz48_2:=kF BK570.out 2;have hfz48_3:=kF BK570.out 3))
              go_roundg kj22
              case measure => have:=HJ4.out;have:=HK2.out;have:=HJ22.out;omega
              case rel => exact ⟨(x2_2),(x571003_2),(0),(wrap64 (x30_2 + 1)),(y577),(wrap64 (x571002_2 + 1)),(wrap64 (x571003_2 + x2_2)),(.slice Ao47 y577.length co47),(by first|rfl|(simp;done)|(simp [*];done)),(by first|rfl|(simp;done)|(simp [*];done)),(by first|rfl|(simp;done)|(simp [*];done)),(by first|rfl|(simp;done)|(simp [*];done)),H',⟨by have:=HJ4.out;have:=HK2.out;have:=HJ22.out;omega⟩,⟨by (with_reducible repeat (first|apply Kd.R_alloc|apply Kd.R_drewN|apply Kd.R_drew));exact Kd.R_mono (Kd.R_far (p:=⟨gb570,1,none⟩) (Kd.R_types HO579.out BK570.out (by decide)) (fun _ hk => hk.2) (.slice Ao47 y577.length co47)) (fun _ hk => trivial)⟩,⟨by (with_reducible repeat (first|refine kN ?_ _|refine kD ?_|refine kA ?_ _));refine blk_far ?_ NB567_570.out _;(with_reducible repeat (first|refine kN ?_ _|refine kD ?_|refine kA ?_ _));exact BK567.out⟩,⟨by (with_reducible repeat (first|refine kN ?_ _|refine kD ?_|refine kA ?_ _));refine blk_far ?_ NB568_570.out _;(with_reducible repeat (first|refine kN ?_ _|refine kD ?_|refine kA ?_ _));exact BK568.out⟩,⟨by (with_reducible repeat (first|refine kN ?_ _|refine kD ?_|refine kA ?_ _));refine blk_put (cs:=#[.bool true,u571001,.int .i64 (wrap64 (x571002_2 + 1)),.int .i64 (wrap64 (x571003_2 + x2_2))]) ?_ 1 _ rfl;(with_reducible repeat (first|refine kN ?_ _|refine kD ?_|refine kA ?_ _));exact BK570.out⟩,⟨by repeat (first|(with_reducible first|exact HB.out|apply bA|apply bN|apply bD|refine bS ?_ GE567.out|refine bS ?_ GE568.out|refine bS ?_ GE570.out)|exact HB.out)⟩⟩
             ·rw [if_neg c42] at H
              exact absurd H (by simp)
            ·rw [if_neg c41] at H
             have c41b0 : (x30_2 == 0) = false:=beq_eq_false_iff_ne.mpr c41
             have c41b1 : (x30_2 != 0) = true:=bne_iff_ne.mpr c41
             by_cases c49 : x11_2 < a0_4
             ·rw [if_pos c49] at H
              have c49b0 : decide (x11_2 < a0_4) = true:=decide_eq_true c49
              clear c49
              by_cases c50 : x571001_2.length < 17592186044416
              ·rw [if_pos c50] at H
               have LMc50:=Am c50
               clear c50
               obtain ⟨y580,hy580⟩ : ∃ y_ : List Int,y_ = (x571001_2 ++ [x2_2]):=⟨_,rfl⟩
               replace H : (impl_Watch.l0 kj22 x2_2 x571003_2 (wrap64 (x11_2 + 1)) l3 (l3.length : Int) (wrap64 (x30_2 + 1)) l0_0 l0_1 a0_2 a0_3 a0_4 true y580 (wrap64 (x571002_2 + 1)) (wrap64 (x571003_2 + x2_2))) = some (r1,r2,r3,r4):=by first|(rw [hy580];with_reducible exact H)|(have H2_:=(Option.bind_some _ _).symm.trans H;rw [hy580];with_reducible exact H2_)|(have H2_:=(Option.bind_some _ _).symm.trans H;with_reducible exact H2_)|with_reducible exact H|(rw [hy580];exact H)|exact H
               have Ny580:=Am hy580
               clear hy580
               have H':=Am H
               clear H
               have hnb51:=NB570_567.out
               have hnc51:=NB567_570.out
               have hnb52:=NB570_568.out
               have hnc52:=NB568_570.out
               have hcz53_0 : wc.cell? ⟨gb570,0,none⟩ = some (.bool true):=(kC BK570.out 0).trans rfl
               have hcz53_1 : wc.cell? ⟨gb570,1,none⟩ = some (u571001):=(kC BK570.out 1).trans rfl
               have hcz53_2 : wc.cell? ⟨gb570,2,none⟩ = some (.int .i64 x571002_2):=(kC BK570.out 2).trans rfl
               have hcz53_3 : wc.cell? ⟨gb570,3,none⟩ = some (.int .i64 x571003_2):=(kC BK570.out 3).trans rfl
               have hfz53_0:=kF BK570.out 0
               have hfz53_1:=kF BK570.out 1
               have hfz53_2:=kF BK570.out 2
               have hfz53_3:=kF BK570.out 3
               have hnb54:=NB567_568.out
               have hnc54:=NB568_567.out
               have hcz55_0 : wc.cell? ⟨gb567,0,none⟩ = some (.slice A0_0 l0_0.length c0_0):=(kC BK567.out 0).trans rfl
               have hcz55_1 : wc.cell? ⟨gb567,1,none⟩ = some (.slice A0_1 l0_1.length c0_1):=(kC BK567.out 1).trans rfl
               have hcz55_2 : wc.cell? ⟨gb567,2,none⟩ = some (.int .i64 a0_2):=(kC BK567.out 2).trans rfl
               have hcz55_3 : wc.cell? ⟨gb567,3,none⟩ = some (.int .i64 a0_3):=(kC BK567.out 3).trans rfl
               have hcz55_4 : wc.cell? ⟨gb567,4,none⟩ = some (.int .i64 a0_4):=(kC BK567.out 4).trans rfl
               have hfz55_0:=kF BK567.out 0
               have hfz55_1:=kF BK567.out 1
               have hfz55_2:=kF BK567.out 2
               have hfz55_3:=kF BK567.out 3
               have hfz55_4:=kF BK567.out 4
               go_wp2_with (first|((with_reducible refine gate_builtin (b:=.append) (xs:=#[.tmp 77,.tmp 79]) rfl ?_);at_builtin;refine Kd.R_append (Kd.int .i64) (w0:=w) w.heap.size rfl (.tmp 77) (.tmp 79) 40 3 (.int .i64 0) 8 rfl Try.underlying40 info3 rfl (by decide) (by omega) u571001 x571001_2 x2_2 [.int .i64 x2_2] (fun _ => True) (fun _ => False) rfl (by first|(go_simp;done)|(go_simp;rfl)) ?aP (fun _ hk => hk.elim) ?aF ?aO ?aB ?aS ?aL ?_;(case aP => exact rfl);(case aB => exact (by repeat (first|(with_reducible first|exact HB.out|apply bA|apply bN|apply bD|refine bS ?_ GE567.out|refine bS ?_ GE568.out|refine bS ?_ GE570.out)|exact HB.out)));(case aF => exact (fun _ _ => trivial));(case aO => exact (by (with_reducible repeat (first|apply Kd.R_alloc|apply Kd.R_drewN|apply Kd.R_drew));exact Kd.R_mono (Kd.R_far (p:=⟨gb570,3,none⟩) (Kd.R_far (p:=⟨gb570,2,none⟩) (Kd.R_types HO_571001.out BK570.out (by decide)) (fun _ hk => hk.2) (.int .i64 (wrap64 (x571002_2 + 1)))) (fun _ hk => hk.2) (.int .i64 (wrap64 (x571003_2 + x2_2)))) (fun _ hk => trivial)));(case aS => exact (below_size (by repeat (first|(with_reducible first|exact HB.out|apply bA|apply bN|apply bD|refine bS ?_ GE567.out|refine bS ?_ GE568.out|refine bS ?_ GE570.out)|exact HB.out))));(case aL => have:=LMc50.out;omega);intro v581 w56 ho hb hg hat;rw [← Ny580.out] at ho;have n0_:=Am (blk_grown (g:=gb567) (o:=.cells #[.slice A0_0 l0_0.length c0_0,.slice A0_1 l0_1.length c0_1,.int .i64 a0_2,.int .i64 a0_3,.int .i64 a0_4] 31 (0,0)) (by (with_reducible repeat (first|refine kN ?_ _|refine kD ?_|refine kA ?_ _));refine blk_far ?_ NB567_570.out _;(with_reducible repeat (first|refine kN ?_ _|refine kD ?_|refine kA ?_ _));refine blk_far ?_ NB567_570.out _;(with_reducible repeat (first|refine kN ?_ _|refine kD ?_|refine kA ?_ _));exact BK567.out) hg (Kd.R_ne HO_571001.out BK567.out (by decide)));have n1_:=Am (blk_grown (g:=gb568) (o:=.cells #[.bool false,.slice none 0 0,.int .i64 0,.int .i64 0] 56 (0,0)) (by (with_reducible repeat (first|refine kN ?_ _|refine kD ?_|refine kA ?_ _));refine blk_far ?_ NB568_570.out _;(with_reducible repeat (first|refine kN ?_ _|refine kD ?_|refine kA ?_ _));refine blk_far ?_ NB568_570.out _;(with_reducible repeat (first|refine kN ?_ _|refine kD ?_|refine kA ?_ _));exact BK568.out) hg (Kd.R_ne HO_571001.out BK568.out (by decide)));have n2_:=Am (blk_grown (g:=gb570) (o:=.cells #[.bool true,u571001,.int .i64 (wrap64 (x571002_2 + 1)),.int .i64 (wrap64 (x571003_2 + x2_2))] 56 (0,0)) (by (with_reducible repeat (first|refine kN ?_ _|refine kD ?_|refine kA ?_ _));refine blk_put (cs:=#[.bool true,u571001,.int .i64 (wrap64 (x571002_2 + 1)),.int .i64 x571003_2]) ?_ 3 _ rfl;(with_reducible repeat (first|refine kN ?_ _|refine kD ?_|refine kA ?_ _));refine blk_put (cs:=#[.bool true,u571001,.int .i64 x571002_2,.int .i64 x571003_2]) ?_ 2 _ rfl;(with_reducible repeat (first|refine kN ?_ _|refine kD ?_|refine kA ?_ _));exact BK570.out) hg (Kd.R_ne HO_571001.out BK570.out (by decide)));have n3_:=Am (hb);have n4_:=Am (ho);clear BK567;clear BK568;clear BK570;clear HB;clear HO_571001;have BK567:=n0_;have BK568:=n1_;have BK570:=n2_;have HB:=n3_;have HO582:=n4_;clear n0_ n1_ n2_ n3_ n4_;clear ho hb hg hat;obtain ⟨Ao57,co57,eo57⟩:=Kd.R_slice HO582.out;subst eo57;have hcz58_0 : w56.cell? ⟨gb570,0,none⟩ = some (.bool true):=(kC BK570.out 0).trans rfl;have hcz58_1 : w56.cell? ⟨gb570,1,none⟩ = some (u571001):=(kC BK570.out 1).trans rfl;have hcz58_2 : w56.cell? ⟨gb570,2,none⟩ = some (.int .i64 (wrap64 (x571002_2 + 1))):=(kC BK570.out 2).trans rfl;have hcz58_3 : w56.cell? ⟨gb570,3,none⟩ = some (.int .i64 (wrap64 (x571003_2 + x2_2))):=(kC BK570.out 3).trans rfl;have hfz58_0:=kF BK570.out 0;have hfz58_1:=kF BK570.out 1;have hfz58_2:=kF BK570.out 2;have hfz58_3:=kF BK570.out 3))
               go_roundg kj22
               case measure => have:=HJ4.out;have:=HK2.out;have:=HJ22.out;omega
               case rel => exact ⟨(x2_2),(x571003_2),(wrap64 (x11_2 + 1)),(wrap64 (x30_2 + 1)),(y580),(wrap64 (x571002_2 + 1)),(wrap64 (x571003_2 + x2_2)),(.slice Ao57 y580.length co57),(by first|rfl|(simp;done)|(simp [*];done)),(by first|rfl|(simp;done)|(simp [*];done)),(by first|rfl|(simp;done)|(simp [*];done)),(by first|rfl|(simp;done)|(simp [*];done)),H',⟨by have:=HJ4.out;have:=HK2.out;have:=HJ22.out;omega⟩,⟨by (with_reducible repeat (first|apply Kd.R_alloc|apply Kd.R_drewN|apply Kd.R_drew));exact Kd.R_mono (Kd.R_far (p:=⟨gb570,1,none⟩) (Kd.R_types HO582.out BK570.out (by decide)) (fun _ hk => hk.2) (.slice Ao57 y580.length co57)) (fun _ hk => trivial)⟩,⟨by (with_reducible repeat (first|refine kN ?_ _|refine kD ?_|refine kA ?_ _));refine blk_far ?_ NB567_570.out _;(with_reducible repeat (first|refine kN ?_ _|refine kD ?_|refine kA ?_ _));exact BK567.out⟩,⟨by (with_reducible repeat (first|refine kN ?_ _|refine kD ?_|refine kA ?_ _));refine blk_far ?_ NB568_570.out _;(with_reducible repeat (first|refine kN ?_ _|refine kD ?_|refine kA ?_ _));exact BK568.out⟩,⟨by (with_reducible repeat (first|refine kN ?_ _|refine kD ?_|refine kA ?_ _));refine blk_put (cs:=#[.bool true,u571001,.int .i64 (wrap64 (x571002_2 + 1)),.int .i64 (wrap64 (x571003_2 + x2_2))]) ?_ 1 _ rfl;(with_reducible repeat (first|refine kN ?_ _|refine kD ?_|refine kA ?_ _));exact BK570.out⟩,⟨by repeat (first|(with_reducible first|exact HB.out|apply bA|apply bN|apply bD|refine bS ?_ GE567.out|refine bS ?_ GE568.out|refine bS ?_ GE570.out)|exact HB.out)⟩⟩
              ·rw [if_neg c50] at H
               exact absurd H (by simp)
             ·rw [if_neg c49] at H
              have c49b0 : decide (x11_2 < a0_4) = false:=decide_eq_false c49
              clear c49
              replace H:=Option.bind_eq_some_iff.mp H
              obtain ⟨t583,A590,H⟩:=H
              replace H : (if x571001_2.length < 17592186044416 then (impl_Watch.l0 kj22 (mx (wrap64 (x2_2 - t583)) 0) x571003_2 x11_2 l3 (l3.length : Int) (wrap64 (x30_2 + 1)) l0_0 l0_1 a0_2 a0_3 a0_4 true (x571001_2 ++ [mx (wrap64 (x2_2 - t583)) 0]) (wrap64 (x571002_2 + 1)) (wrap64 (x571003_2 + (mx (wrap64 (x2_2 - t583)) 0)))) else (none)) = some (r1,r2,r3,r4):=H
              have A59:=Am A590
              clear A590
              obtain ⟨ji60,hji60⟩ : ∃ j_ : Int,(mx (wrap64 (x2_2 - t583)) 0) = j_:=⟨_,rfl⟩
              replace H : (if x571001_2.length < 17592186044416 then (impl_Watch.l0 kj22 ji60 x571003_2 x11_2 l3 (l3.length : Int) (wrap64 (x30_2 + 1)) l0_0 l0_1 a0_2 a0_3 a0_4 true (x571001_2 ++ [ji60]) (wrap64 (x571002_2 + 1)) (wrap64 (x571003_2 + (ji60)))) else (none)) = some (r1,r2,r3,r4):=by first|(rw [hji60] at H;exact H)|(simp only [hji60] at H ⊢;exact H)
              (try rw [hji60] at A59)
              have hji60_ : (if (wrap64 (x2_2 - t583)) < 0 then 0 else (wrap64 (x2_2 - t583))) = ji60:=hji60
              by_cases c61 : x571001_2.length < 17592186044416
              ·rw [if_pos c61] at H
               have LMc61:=Am c61
               clear c61
               obtain ⟨y584,hy584⟩ : ∃ y_ : List Int,y_ = (x571001_2 ++ [ji60]):=⟨_,rfl⟩
               replace H : (impl_Watch.l0 kj22 ji60 x571003_2 x11_2 l3 (l3.length : Int) (wrap64 (x30_2 + 1)) l0_0 l0_1 a0_2 a0_3 a0_4 true y584 (wrap64 (x571002_2 + 1)) (wrap64 (x571003_2 + (ji60)))) = some (r1,r2,r3,r4):=by first|(rw [hy584];with_reducible exact H)|(have H2_:=(Option.bind_some _ _).symm.trans H;rw [hy584];with_reducible exact H2_)|(have H2_:=(Option.bind_some _ _).symm.trans H;with_reducible exact H2_)|with_reducible exact H|(rw [hy584];exact H)|exact H
               have Ny584:=Am hy584
               clear hy584
               have H':=Am H
               clear H
               have hnb62:=NB570_567.out
               have hnc62:=NB567_570.out
               have hnb63:=NB570_568.out
               have hnc63:=NB568_570.out
               have hcz64_0 : wc.cell? ⟨gb570,0,none⟩ = some (.bool true):=(kC BK570.out 0).trans rfl
               have hcz64_1 : wc.cell? ⟨gb570,1,none⟩ = some (u571001):=(kC BK570.out 1).trans rfl
               have hcz64_2 : wc.cell? ⟨gb570,2,none⟩ = some (.int .i64 x571002_2):=(kC BK570.out 2).trans rfl
               have hcz64_3 : wc.cell? ⟨gb570,3,none⟩ = some (.int .i64 x571003_2):=(kC BK570.out 3).trans rfl
               have hfz64_0:=kF BK570.out 0
               have hfz64_1:=kF BK570.out 1
               have hfz64_2:=kF BK570.out 2
               have hfz64_3:=kF BK570.out 3
               have hnb65:=NB567_568.out
               have hnc65:=NB568_567.out
               have hcz66_0 : wc.cell? ⟨gb567,0,none⟩ = some (.slice A0_0 l0_0.length c0_0):=(kC BK567.out 0).trans rfl
               have hcz66_1 : wc.cell? ⟨gb567,1,none⟩ = some (.slice A0_1 l0_1.length c0_1):=(kC BK567.out 1).trans rfl
               have hcz66_2 : wc.cell? ⟨gb567,2,none⟩ = some (.int .i64 a0_2):=(kC BK567.out 2).trans rfl
               have hcz66_3 : wc.cell? ⟨gb567,3,none⟩ = some (.int .i64 a0_3):=(kC BK567.out 3).trans rfl
               have hcz66_4 : wc.cell? ⟨gb567,4,none⟩ = some (.int .i64 a0_4):=(kC BK567.out 4).trans rfl
               have hfz66_0:=kF BK567.out 0
               have hfz66_1:=kF BK567.out 1
               have hfz66_2:=kF BK567.out 2
               have hfz66_3:=kF BK567.out 3
               have hfz66_4:=kF BK567.out 4
               go_wp2_with (first|((with_reducible refine gate_callee (f:=71) rfl ?_);refine goesL_ (some 48) rfl rfl Try.func71 (by kernel_rfl) rfl #[.agg #[.slice A0_0 l0_0.length c0_0,.slice A0_1 l0_1.length c0_1,.int .i64 a0_2,.int .i64 a0_3,.int .i64 a0_4],.int .i64 x10_2] rfl (by (try simp only [List.map_toArray,List.map_cons,List.map_nil]);first|done|rfl|(simp only [List.length_drop,List.length_take];rfl)) ?_;(with_reducible refine (impl_brakeAt.calls kj22 _ _ l0_0 _ _ l0_1 a0_2 a0_3 a0_4 x10_2 t583 _ ?side1 ?side2 ?side3 ?side4 A59.out).mono ?_);(case side1 => exact Kd.C_below HR0_0.out (by repeat (first|(with_reducible first|exact HB.out|apply bA|apply bN|apply bD|refine bS ?_ GE567.out|refine bS ?_ GE568.out|refine bS ?_ GE570.out)|exact HB.out)));(case side2 => exact HC0_0.out);(case side3 => exact Kd.C_below HR0_1.out (by repeat (first|(with_reducible first|exact HB.out|apply bA|apply bN|apply bD|refine bS ?_ GE567.out|refine bS ?_ GE568.out|refine bS ?_ GE570.out)|exact HB.out)));(case side4 => exact HC0_1.out);rintro e w67 ⟨rfl,hb⟩;refine ⟨_,rfl,?_⟩;have n0_:=Am (Kd.R_below (by (with_reducible repeat (first|apply Kd.R_alloc|apply Kd.R_drewN|apply Kd.R_drew));exact (Kd.R_mono (Kd.R_far (p:=⟨gb570,2,none⟩) (Kd.R_types HO_571001.out BK570.out (by decide)) (fun _ hk => hk.2) (.int .i64 (wrap64 (x571002_2 + 1)))) (fun _ h_ => h_.1))) hb);have n1_:=Am (blk_below (g:=gb567) (o:=.cells #[.slice A0_0 l0_0.length c0_0,.slice A0_1 l0_1.length c0_1,.int .i64 a0_2,.int .i64 a0_3,.int .i64 a0_4] 31 (0,0)) (by (with_reducible repeat (first|refine kN ?_ _|refine kD ?_|refine kA ?_ _));refine blk_far ?_ NB567_570.out _;(with_reducible repeat (first|refine kN ?_ _|refine kD ?_|refine kA ?_ _));exact BK567.out) hb);have n2_:=Am (blk_below (g:=gb568) (o:=.cells #[.bool false,.slice none 0 0,.int .i64 0,.int .i64 0] 56 (0,0)) (by (with_reducible repeat (first|refine kN ?_ _|refine kD ?_|refine kA ?_ _));refine blk_far ?_ NB568_570.out _;(with_reducible repeat (first|refine kN ?_ _|refine kD ?_|refine kA ?_ _));exact BK568.out) hb);have n3_:=Am (blk_below (g:=gb570) (o:=.cells #[.bool true,u571001,.int .i64 (wrap64 (x571002_2 + 1)),.int .i64 x571003_2] 56 (0,0)) (by (with_reducible repeat (first|refine kN ?_ _|refine kD ?_|refine kA ?_ _));refine blk_put (cs:=#[.bool true,u571001,.int .i64 x571002_2,.int .i64 x571003_2]) ?_ 2 _ rfl;(with_reducible repeat (first|refine kN ?_ _|refine kD ?_|refine kA ?_ _));exact BK570.out) hb);have n4_:=Am (below_step (by repeat (first|(with_reducible first|exact HB.out|apply bA|apply bN|apply bD|refine bS ?_ GE567.out|refine bS ?_ GE568.out|refine bS ?_ GE570.out)|exact HB.out)) hb);clear HO_571001;clear BK567;clear BK568;clear BK570;clear HB;have HO_571001:=n0_;have BK567:=n1_;have BK568:=n2_;have BK570:=n3_;have HB:=n4_;clear n0_ n1_ n2_ n3_ n4_;(try clear hb);(try clear hb2);(try clear hk);(try clear hi);have hcz68_0 : w67.cell? ⟨gb570,0,none⟩ = some (.bool true):=(kC BK570.out 0).trans rfl;have hcz68_1 : w67.cell? ⟨gb570,1,none⟩ = some (u571001):=(kC BK570.out 1).trans rfl;have hcz68_2 : w67.cell? ⟨gb570,2,none⟩ = some (.int .i64 (wrap64 (x571002_2 + 1))):=(kC BK570.out 2).trans rfl;have hcz68_3 : w67.cell? ⟨gb570,3,none⟩ = some (.int .i64 x571003_2):=(kC BK570.out 3).trans rfl;have hfz68_0:=kF BK570.out 0;have hfz68_1:=kF BK570.out 1;have hfz68_2:=kF BK570.out 2;have hfz68_3:=kF BK570.out 3)|((with_reducible refine gate_builtin (b:=.append) (xs:=#[.tmp 77,.tmp 79]) rfl ?_);at_builtin;refine Kd.R_append (Kd.int .i64) (w0:=w) w.heap.size rfl (.tmp 77) (.tmp 79) 40 3 (.int .i64 0) 8 rfl Try.underlying40 info3 rfl (by decide) (by omega) u571001 x571001_2 ji60 [.int .i64 ji60] (fun _ => True) (fun _ => False) rfl (by first|(go_simp;done)|(go_simp;rfl)) ?aP (fun _ hk => hk.elim) ?aF ?aO ?aB ?aS ?aL ?_;(case aP => exact rfl);(case aB => exact (by repeat (first|(with_reducible first|exact HB.out|apply bA|apply bN|apply bD|refine bS ?_ GE567.out|refine bS ?_ GE568.out|refine bS ?_ GE570.out)|exact HB.out)));(case aF => exact (fun _ _ => trivial));(case aO => exact (by (with_reducible repeat (first|apply Kd.R_alloc|apply Kd.R_drewN|apply Kd.R_drew));exact Kd.R_mono (Kd.R_far (p:=⟨gb570,3,none⟩) (Kd.R_types HO_571001.out BK570.out (by decide)) (fun _ hk => hk.2) (.int .i64 (wrap64 (x571003_2 + (ji60))))) (fun _ hk => trivial)));(case aS => exact (below_size (by repeat (first|(with_reducible first|exact HB.out|apply bA|apply bN|apply bD|refine bS ?_ GE567.out|refine bS ?_ GE568.out|refine bS ?_ GE570.out)|exact HB.out))));(case aL => have:=LMc61.out;omega);intro v585 w69 ho hb hg hat;rw [← Ny584.out] at ho;have n0_:=Am (blk_grown (g:=gb567) (o:=.cells #[.slice A0_0 l0_0.length c0_0,.slice A0_1 l0_1.length c0_1,.int .i64 a0_2,.int .i64 a0_3,.int .i64 a0_4] 31 (0,0)) (by (with_reducible repeat (first|refine kN ?_ _|refine kD ?_|refine kA ?_ _));refine blk_far ?_ NB567_570.out _;(with_reducible repeat (first|refine kN ?_ _|refine kD ?_|refine kA ?_ _));exact BK567.out) hg (Kd.R_ne HO_571001.out BK567.out (by decide)));have n1_:=Am (blk_grown (g:=gb568) (o:=.cells #[.bool false,.slice none 0 0,.int .i64 0,.int .i64 0] 56 (0,0)) (by (with_reducible repeat (first|refine kN ?_ _|refine kD ?_|refine kA ?_ _));refine blk_far ?_ NB568_570.out _;(with_reducible repeat (first|refine kN ?_ _|refine kD ?_|refine kA ?_ _));exact BK568.out) hg (Kd.R_ne HO_571001.out BK568.out (by decide)));have n2_:=Am (blk_grown (g:=gb570) (o:=.cells #[.bool true,u571001,.int .i64 (wrap64 (x571002_2 + 1)),.int .i64 (wrap64 (x571003_2 + (ji60)))] 56 (0,0)) (by (with_reducible repeat (first|refine kN ?_ _|refine kD ?_|refine kA ?_ _));refine blk_put (cs:=#[.bool true,u571001,.int .i64 (wrap64 (x571002_2 + 1)),.int .i64 x571003_2]) ?_ 3 _ rfl;(with_reducible repeat (first|refine kN ?_ _|refine kD ?_|refine kA ?_ _));exact BK570.out) hg (Kd.R_ne HO_571001.out BK570.out (by decide)));have n3_:=Am (hb);have n4_:=Am (ho);clear BK567;clear BK568;clear BK570;clear HB;clear HO_571001;have BK567:=n0_;have BK568:=n1_;have BK570:=n2_;have HB:=n3_;have HO586:=n4_;clear n0_ n1_ n2_ n3_ n4_;clear ho hb hg hat;obtain ⟨Ao70,co70,eo70⟩:=Kd.R_slice HO586.out;subst eo70;have hcz71_0 : w69.cell? ⟨gb570,0,none⟩ = some (.bool true):=(kC BK570.out 0).trans rfl;have hcz71_1 : w69.cell? ⟨gb570,1,none⟩ = some (u571001):=(kC BK570.out 1).trans rfl;have hcz71_2 : w69.cell? ⟨gb570,2,none⟩ = some (.int .i64 (wrap64 (x571002_2 + 1))):=(kC BK570.out 2).trans rfl;have hcz71_3 : w69.cell? ⟨gb570,3,none⟩ = some (.int .i64 (wrap64 (x571003_2 + (ji60)))):=(kC BK570.out 3).trans rfl;have hfz71_0:=kF BK570.out 0;have hfz71_1:=kF BK570.out 1;have hfz71_2:=kF BK570.out 2;have hfz71_3:=kF BK570.out 3))
               go_roundg kj22
               case measure => have:=HJ4.out;have:=HK2.out;have:=HJ22.out;omega
               case rel => exact ⟨(ji60),(x571003_2),(x11_2),(wrap64 (x30_2 + 1)),(y584),(wrap64 (x571002_2 + 1)),(wrap64 (x571003_2 + (ji60))),(.slice Ao70 y584.length co70),(by first|rfl|(simp;done)|(simp only [← hji60] <;> (first|rfl|simp))|(simp [*];done)),(by first|rfl|(simp;done)|(simp [*];done)),(by first|rfl|(simp;done)|(simp [*];done)),(by first|rfl|(simp;done)|(simp [*];done)),H',⟨by have:=HJ4.out;have:=HK2.out;have:=HJ22.out;omega⟩,⟨by (with_reducible repeat (first|apply Kd.R_alloc|apply Kd.R_drewN|apply Kd.R_drew));exact Kd.R_mono (Kd.R_far (p:=⟨gb570,1,none⟩) (Kd.R_types HO586.out BK570.out (by decide)) (fun _ hk => hk.2) (.slice Ao70 y584.length co70)) (fun _ hk => trivial)⟩,⟨by (with_reducible repeat (first|refine kN ?_ _|refine kD ?_|refine kA ?_ _));refine blk_far ?_ NB567_570.out _;(with_reducible repeat (first|refine kN ?_ _|refine kD ?_|refine kA ?_ _));exact BK567.out⟩,⟨by (with_reducible repeat (first|refine kN ?_ _|refine kD ?_|refine kA ?_ _));refine blk_far ?_ NB568_570.out _;(with_reducible repeat (first|refine kN ?_ _|refine kD ?_|refine kA ?_ _));exact BK568.out⟩,⟨by (with_reducible repeat (first|refine kN ?_ _|refine kD ?_|refine kA ?_ _));refine blk_put (cs:=#[.bool true,u571001,.int .i64 (wrap64 (x571002_2 + 1)),.int .i64 (wrap64 (x571003_2 + (ji60)))]) ?_ 1 _ rfl;(with_reducible repeat (first|refine kN ?_ _|refine kD ?_|refine kA ?_ _));exact BK570.out⟩,⟨by repeat (first|(with_reducible first|exact HB.out|apply bA|apply bN|apply bD|refine bS ?_ GE567.out|refine bS ?_ GE568.out|refine bS ?_ GE570.out)|exact HB.out)⟩⟩
              ·rw [if_neg c61] at H
               exact absurd H (by simp)
        ·rw [if_neg c22] at H
         exact absurd H (by simp)
       ·rw [if_neg c21] at H
        exact absurd H (by simp)
      ·rw [if_neg c20] at H
       have c20b0 : decide (x30_2 < (l3.length : Int)) = false:=decide_eq_false c20
       clear c20
       simp only [Option.some.injEq,Prod.mk.injEq] at H
       obtain ⟨rfl,rfl,rfl,rfl⟩:=H
       have hnb72:=NB570_567.out
       have hnc72:=NB567_570.out
       have hnb73:=NB570_568.out
       have hnc73:=NB568_570.out
       have hcz74_0 : wr.cell? ⟨gb570,0,none⟩ = some (.bool true):=(kC BK570.out 0).trans rfl
       have hcz74_1 : wr.cell? ⟨gb570,1,none⟩ = some (u571001):=(kC BK570.out 1).trans rfl
       have hcz74_2 : wr.cell? ⟨gb570,2,none⟩ = some (.int .i64 x571002_2):=(kC BK570.out 2).trans rfl
       have hcz74_3 : wr.cell? ⟨gb570,3,none⟩ = some (.int .i64 x571003_2):=(kC BK570.out 3).trans rfl
       have hfz74_0:=kF BK570.out 0
       have hfz74_1:=kF BK570.out 1
       have hfz74_2:=kF BK570.out 2
       have hfz74_3:=kF BK570.out 3
       have hnb75:=NB568_567.out
       have hnc75:=NB567_568.out
       have hcz76_0 : wr.cell? ⟨gb568,0,none⟩ = some (.bool false):=(kC BK568.out 0).trans rfl
       have hcz76_1 : wr.cell? ⟨gb568,1,none⟩ = some (.slice none 0 0):=(kC BK568.out 1).trans rfl
       have hcz76_2 : wr.cell? ⟨gb568,2,none⟩ = some (.int .i64 0):=(kC BK568.out 2).trans rfl
       have hcz76_3 : wr.cell? ⟨gb568,3,none⟩ = some (.int .i64 0):=(kC BK568.out 3).trans rfl
       have hfz76_0:=kF BK568.out 0
       have hfz76_1:=kF BK568.out 1
       have hfz76_2:=kF BK568.out 2
       have hfz76_3:=kF BK568.out 3
       obtain ⟨Ao77,co77,eo77⟩:=Kd.R_slice HO_571001.out
       subst eo77
       go_wp2
       refine bodyPost_ret (results_cell_row rfl _ _ gb568 56 #[.bool true,.slice Ao77 x571001_2.length co77,.int .i64 x571002_2,.int .i64 x571003_2] (0,0) _ rfl (by (with_reducible repeat (first|refine kN ?_ _|refine kD ?_|refine kA ?_ _));refine blk_put (cs:=#[.bool true,.slice Ao77 x571001_2.length co77,.int .i64 x571002_2,.int .i64 0]) ?_ 3 _ rfl;(with_reducible repeat (first|refine kN ?_ _|refine kD ?_|refine kA ?_ _));refine blk_put (cs:=#[.bool true,.slice Ao77 x571001_2.length co77,.int .i64 0,.int .i64 0]) ?_ 2 _ rfl;(with_reducible repeat (first|refine kN ?_ _|refine kD ?_|refine kA ?_ _));refine blk_put (cs:=#[.bool true,.slice none 0 0,.int .i64 0,.int .i64 0]) ?_ 1 _ rfl;(with_reducible repeat (first|refine kN ?_ _|refine kD ?_|refine kA ?_ _));refine blk_put (cs:=#[.bool false,.slice none 0 0,.int .i64 0,.int .i64 0]) ?_ 0 _ rfl;(with_reducible repeat (first|refine kN ?_ _|refine kD ?_|refine kA ?_ _));exact BK568.out) Try.underlying56 rfl (by kernel_rfl)) rfl ?_
       exact ⟨_,by first|rfl|(simp [errW_none,errW_some] <;> rfl)|(simp [*,errW_none,errW_some] <;> rfl),by (with_reducible repeat (first|apply Kd.R_alloc|apply Kd.R_drewN|apply Kd.R_drew));exact Kd.R_mono (Kd.R_far (p:=⟨gb568,3,none⟩) (Kd.R_far (p:=⟨gb568,2,none⟩) (Kd.R_far (p:=⟨gb568,1,none⟩) (Kd.R_far (p:=⟨gb568,0,none⟩) (Kd.R_types HO_571001.out BK568.out (by decide)) (fun _ hk => hk.2) (.bool true)) (fun _ hk => hk.2) (.slice Ao77 x571001_2.length co77)) (fun _ hk => hk.2) (.int .i64 x571002_2)) (fun _ hk => hk.2) (.int .i64 x571003_2)) (fun _ hk => trivial),by repeat (first|(with_reducible first|exact HB.out|apply bA|apply bN|apply bD|refine bS ?_ GE567.out|refine bS ?_ GE568.out|refine bS ?_ GE570.out)|exact HB.out)⟩

end Go.Proofs.Ytgakkndbcilclaa.PA
