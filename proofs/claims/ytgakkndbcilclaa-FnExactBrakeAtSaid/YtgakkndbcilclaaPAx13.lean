-- Written by a program of this session (wip/print/myprint.py) over the kit's print, with contracts of its own; not a text of print.sh's.
import Derived.Test.YtgakkndbcilclaaPAx0
import Derived.Test.YtgakkndbcilclaaPAx8
import Derived.Test.YtgakkndbcilclaaPAx10
import Derived.Test.YtgakkndbcilclaaPAx12
namespace Go.Proofs.Ytgakkndbcilclaa.PA
open Go.RowKit Go.Proofs.YtgakkndbcilclaaW.PrintWords Go.Proofs.YtgakkndbcilclaaW.PrintLast Go.Proofs.YtgakkndbcilclaaW.PrintMore
attribute [local go_sem] max2_int min2_int max_two min_two   -- for this text's walks alone
set_option linter.unusedVariables false
set_option linter.unusedSimpArgs false

/-! ### impl_StandAt: function 24 -/
mutual
def impl_StandAt.j0 : Nat → Int → Int → Bool → List (S71) → List (S75) → Int → Int → Int → Option (Int)
 | 0,_,_,_,_,_,_,_,_ => none
 | k + 1,x1,x2,x16,x314000,x314001,x314002,x314003,x314004 => if x16 = true then (some (-1)) else ((impl_total.f k x314000 x314001 x314002 x314003 x314004).bind fun t316 => (impl_StandAt.l0 k x1 x2 t316 x314000 x314001 x314002 x314003 x314004))
def impl_StandAt.l0 : Nat → Int → Int → Int → List (S71) → List (S75) → Int → Int → Int → Option (Int)
 | 0,_,_,_,_,_,_,_,_ => none
 | k + 1,x1,x2,x7,x314000,x314001,x314002,x314003,x314004 => if x2 > 0 then ((impl_brakeAt.f k x314000 x314001 x314002 x314003 x314004 x1).bind fun t317 => (if (wrap64 (x1 + (mx (wrap64 (x2 - t317)) 0))) > x7 then (some (-1)) else (impl_StandAt.l0 k (wrap64 (x1 + (mx (wrap64 (x2 - t317)) 0))) (mx (wrap64 (x2 - t317)) 0) x7 x314000 x314001 x314002 x314003 x314004))) else (some x1)
end
def impl_StandAt.f (k : Nat) (l0_0 : List (S71)) (l0_1 : List (S75)) (a0_2 : Int) (a0_3 : Int) (a0_4 : Int) (a1 : Int) (a2 : Int) : Option (Int):=(impl_right.f k l0_0 l0_1 a0_2 a0_3 a0_4 a1).bind fun t314 => (if t314 = true then ((impl_speed.f a2).bind fun t315 => (impl_StandAt.j0 k a1 a2 (!t315) l0_0 l0_1 a0_2 a0_3 a0_4)) else (impl_StandAt.j0 k a1 a2 true l0_0 l0_1 a0_2 a0_3 a0_4))
theorem impl_StandAt.mono_l : ∀ k,(∀ y0 y1 y2 y3 y4 y5 y6 y7,LeO (impl_StandAt.j0 k y0 y1 y2 y3 y4 y5 y6 y7) (impl_StandAt.j0 (k + 1) y0 y1 y2 y3 y4 y5 y6 y7))∧(∀ y0 y1 y2 y3 y4 y5 y6 y7,LeO (impl_StandAt.l0 k y0 y1 y2 y3 y4 y5 y6 y7) (impl_StandAt.l0 (k + 1) y0 y1 y2 y3 y4 y5 y6 y7))
 | 0 => ⟨fun _ _ _ _ _ _ _ _ r h => by simp [impl_StandAt.j0] at h,fun _ _ _ _ _ _ _ _ r h => by simp [impl_StandAt.l0] at h⟩
 | k + 1 => by
  obtain ⟨ih0,ih1⟩:=impl_StandAt.mono_l k
  refine ⟨?_,?_⟩
  ·intro y0 y1 y2 y3 y4 y5 y6 y7
   unfold impl_StandAt.j0
   repeat' first
   | (with_reducible exact ih0 _ _ _ _ _ _ _ _)
   | (with_reducible exact ih1 _ _ _ _ _ _ _ _)
   | (with_reducible exact impl_brakeAt.mono _ _ _ _ _ _ _)
   | (with_reducible exact impl_right.mono _ _ _ _ _ _ _)
   | (with_reducible exact impl_total.mono _ _ _ _ _ _)
   | (with_reducible exact LeO.refl _)
   | (with_reducible exact LeO.none _)
   | (with_reducible refine LeO.ite ?_ ?_)
   | (with_reducible refine LeO.bind ?_ (fun _ => ?_))
   | exact ih0 _ _ _ _ _ _ _ _
   | exact ih1 _ _ _ _ _ _ _ _
   | exact impl_brakeAt.mono _ _ _ _ _ _ _
   | exact impl_right.mono _ _ _ _ _ _ _
   | exact impl_total.mono _ _ _ _ _ _
   | exact LeO.none _
   | refine LeO.ite ?_ ?_
   | refine LeO.bind ?_ (fun _ => ?_)
  ·intro y0 y1 y2 y3 y4 y5 y6 y7
   unfold impl_StandAt.l0
   repeat' first
   | (with_reducible exact ih0 _ _ _ _ _ _ _ _)
   | (with_reducible exact ih1 _ _ _ _ _ _ _ _)
   | (with_reducible exact impl_brakeAt.mono _ _ _ _ _ _ _)
   | (with_reducible exact impl_right.mono _ _ _ _ _ _ _)
   | (with_reducible exact impl_total.mono _ _ _ _ _ _)
   | (with_reducible exact LeO.refl _)
   | (with_reducible exact LeO.none _)
   | (with_reducible refine LeO.ite ?_ ?_)
   | (with_reducible refine LeO.bind ?_ (fun _ => ?_))
   | exact ih0 _ _ _ _ _ _ _ _
   | exact ih1 _ _ _ _ _ _ _ _
   | exact impl_brakeAt.mono _ _ _ _ _ _ _
   | exact impl_right.mono _ _ _ _ _ _ _
   | exact impl_total.mono _ _ _ _ _ _
   | exact LeO.none _
   | refine LeO.ite ?_ ?_
   | refine LeO.bind ?_ (fun _ => ?_)
theorem impl_StandAt.mono : ∀ a0 a1 a2 a3 a4 a5 a6 k,LeO (impl_StandAt.f k a0 a1 a2 a3 a4 a5 a6) (impl_StandAt.f (k + 1) a0 a1 a2 a3 a4 a5 a6):=by
 intro a0 a1 a2 a3 a4 a5 a6 k
 obtain ⟨ih0,ih1⟩:=impl_StandAt.mono_l k
 unfold impl_StandAt.f
 repeat' first
   | (with_reducible exact ih0 _ _ _ _ _ _ _ _)
   | (with_reducible exact ih1 _ _ _ _ _ _ _ _)
   | (with_reducible exact impl_brakeAt.mono _ _ _ _ _ _ _)
   | (with_reducible exact impl_right.mono _ _ _ _ _ _ _)
   | (with_reducible exact impl_total.mono _ _ _ _ _ _)
   | (with_reducible exact LeO.refl _)
   | (with_reducible exact LeO.none _)
   | (with_reducible refine LeO.ite ?_ ?_)
   | (with_reducible refine LeO.bind ?_ (fun _ => ?_))
   | exact ih0 _ _ _ _ _ _ _ _
   | exact ih1 _ _ _ _ _ _ _ _
   | exact impl_brakeAt.mono _ _ _ _ _ _ _
   | exact impl_right.mono _ _ _ _ _ _ _
   | exact impl_total.mono _ _ _ _ _ _
   | exact LeO.none _
   | refine LeO.ite ?_ ?_
   | refine LeO.bind ?_ (fun _ => ?_)
set_option maxHeartbeats 8000000 in
set_option maxRecDepth 100000 in
theorem impl_StandAt.calls (k : Nat) (A0_0 : Option Addr) (c0_0 : Nat) (l0_0 : List (S71)) (A0_1 : Option Addr) (c0_1 : Nat) (l0_1 : List (S75)) (a0_2 : Int) (a0_3 : Int) (a0_4 : Int) (a1 : Int) (a2 : Int) (r : Int) (w : World) (hr0_0 : Kd.C k71 w A0_0 l0_0.length l0_0) (hc0_0 : l0_0.length ≤ c0_0) (hr0_1 : Kd.C k75 w A0_1 l0_1.length l0_1) (hc0_1 : l0_1.length ≤ c0_1) (h : impl_StandAt.f k l0_0 l0_1 a0_2 a0_3 a0_4 a1 a2 = some r) :
  Calls Try.prog 24 #[.agg #[.slice A0_0 l0_0.length c0_0,.slice A0_1 l0_1.length c0_1,.int .i64 a0_2,.int .i64 a0_3,.int .i64 a0_4],.int .i64 a1,.int .i64 a2] w fun e w' => e = .returned (.int .i64 r)∧Below w.heap.size w w':=by
 have hu31:=Try.underlying31
 have HR0_0:=Am hr0_0
 have HC0_0:=Am hc0_0
 clear hr0_0 hc0_0
 have HR0_1:=Am hr0_1
 have HC0_1:=Am hc0_1
 clear hr0_1 hc0_1
 have HB:=Am (Below.refl w.heap.size w)
 have H : ((impl_right.f k l0_0 l0_1 a0_2 a0_3 a0_4 a1).bind fun t314 => (if t314 = true then ((impl_speed.f a2).bind fun t315 => (impl_StandAt.j0 k a1 a2 (!t315) l0_0 l0_1 a0_2 a0_3 a0_4)) else (impl_StandAt.j0 k a1 a2 true l0_0 l0_1 a0_2 a0_3 a0_4))) = some r:=h
 clear h
 have HC4:=Am H
 clear H
 go_enter Try.func24,Try.ntmps24
 go_upto_region 1 with (first|((with_reducible refine gate_dst (N:=3) rfl ?_);refine box_event ?hg (N:=3) ?hd (cs:=#[.slice A0_0 l0_0.length c0_0,.slice A0_1 l0_1.length c0_1,.int .i64 a0_2,.int .i64 a0_3,.int .i64 a0_4]) (t:=31) ?hr ?_;(case hd => rfl);(case hg => rfl);(case hr => first|(go_simp;done)|(go_simp;rfl));intro gb313 hg w5 hbox hb;have n0_:=Am (below_step (by repeat (first|(with_reducible first|exact HB.out|apply bA|apply bN|apply bD)|exact HB.out)) hb);have n1_:=Am (hbox);have n2_:=Am ((by rw [hg];exact (below_size (by repeat (first|(with_reducible first|exact HB.out|apply bA|apply bN|apply bD)|exact HB.out))) : w.heap.size ≤ gb313));have n3_:=Am ((by rw [hg];exact (below_size (by repeat (first|(with_reducible first|exact HB.out|apply bA|apply bN|apply bD)|exact HB.out))) : w.heap.size ≤ gb313));clear HB;have HB:=n0_;have BK313:=n1_;have GW313:=n2_;have GE313:=n3_;clear n0_ n1_ n2_ n3_;clear hb hbox hg))
 (try simp only [Act.put,List.setIfInBounds_toArray,List.set_cons_zero,List.set_cons_succ])
 go_cut [16] (fun v16 wc => ∃ (kq : Nat) (x16_3 : Bool),v16 = .bool x16_3∧As (impl_StandAt.j0 kq a1 a2 x16_3 l0_0 l0_1 a0_2 a0_3 a0_4 = some r)∧As (kq ≤ k)∧As (wc.heap[gb313]? = some (.cells #[(.slice A0_0 l0_0.length c0_0),(.slice A0_1 l0_1.length c0_1),.int .i64 a0_2,.int .i64 a0_3,.int .i64 a0_4] 31 (0,0)))∧As (Below w.heap.size w wc))
 case first =>
  have H:=HC4.out
  clear HC4
  replace H:=Option.bind_eq_some_iff.mp H
  obtain ⟨t314,A60,H⟩:=H
  replace H : (if t314 = true then ((impl_speed.f a2).bind fun t315 => (impl_StandAt.j0 k a1 a2 (!t315) l0_0 l0_1 a0_2 a0_3 a0_4)) else (impl_StandAt.j0 k a1 a2 true l0_0 l0_1 a0_2 a0_3 a0_4)) = some r:=H
  have A6:=Am A60
  clear A60
  by_cases c7 : t314 = true
  ·subst c7
   have H1 : ((impl_speed.f a2).bind fun t315 => (impl_StandAt.j0 k a1 a2 (!t315) l0_0 l0_1 a0_2 a0_3 a0_4)) = some r:=by rw [if_pos rfl] at H;exact H
   clear H
   have H:=H1
   clear H1
   replace H:=Option.bind_eq_some_iff.mp H
   obtain ⟨t315,A80,H⟩:=H
   replace H : (impl_StandAt.j0 k a1 a2 (!t315) l0_0 l0_1 a0_2 a0_3 a0_4) = some r:=H
   have A8:=Am A80
   clear A80
   have H':=Am H
   clear H
   have hcz9_0 : w5.cell? ⟨gb313,0,none⟩ = some (.slice A0_0 l0_0.length c0_0):=(kC BK313.out 0).trans rfl
   have hcz9_1 : w5.cell? ⟨gb313,1,none⟩ = some (.slice A0_1 l0_1.length c0_1):=(kC BK313.out 1).trans rfl
   have hcz9_2 : w5.cell? ⟨gb313,2,none⟩ = some (.int .i64 a0_2):=(kC BK313.out 2).trans rfl
   have hcz9_3 : w5.cell? ⟨gb313,3,none⟩ = some (.int .i64 a0_3):=(kC BK313.out 3).trans rfl
   have hcz9_4 : w5.cell? ⟨gb313,4,none⟩ = some (.int .i64 a0_4):=(kC BK313.out 4).trans rfl
   have hfz9_0:=kF BK313.out 0
   have hfz9_1:=kF BK313.out 1
   have hfz9_2:=kF BK313.out 2
   have hfz9_3:=kF BK313.out 3
   have hfz9_4:=kF BK313.out 4
   go_wp2_with (first|((with_reducible refine gate_callee (f:=68) rfl ?_);refine goesL_ (some 10) rfl rfl Try.func68 (by kernel_rfl) rfl #[.agg #[.slice A0_0 l0_0.length c0_0,.slice A0_1 l0_1.length c0_1,.int .i64 a0_2,.int .i64 a0_3,.int .i64 a0_4],.int .i64 a1] rfl (by (try simp only [List.map_toArray,List.map_cons,List.map_nil]);first|done|rfl|(simp only [List.length_drop,List.length_take];rfl)) ?_;(with_reducible refine (impl_right.calls k _ _ l0_0 _ _ l0_1 a0_2 a0_3 a0_4 a1 true _ ?side1 ?side2 ?side3 ?side4 A6.out).mono ?_);(case side1 => repeat (first|exact (Kd.C_below HR0_0.out HB.out)|(with_reducible refine Kd.C_alloc ?_ _)|(with_reducible refine Kd.C_drewN ?_ _)|(with_reducible refine Kd.C_drew ?_)));(case side2 => exact HC0_0.out);(case side3 => repeat (first|exact (Kd.C_below HR0_1.out HB.out)|(with_reducible refine Kd.C_alloc ?_ _)|(with_reducible refine Kd.C_drewN ?_ _)|(with_reducible refine Kd.C_drew ?_)));(case side4 => exact HC0_1.out);rintro e w10 ⟨rfl,hb⟩;refine ⟨_,rfl,?_⟩;have n0_:=Am (blk_below (g:=gb313) (o:=.cells #[.slice A0_0 l0_0.length c0_0,.slice A0_1 l0_1.length c0_1,.int .i64 a0_2,.int .i64 a0_3,.int .i64 a0_4] 31 (0,0)) (by (with_reducible repeat (first|refine kN ?_ _|refine kD ?_|refine kA ?_ _));exact BK313.out) hb);have n1_:=Am (below_step (by repeat (first|(with_reducible first|exact HB.out|apply bA|apply bN|apply bD|refine bS ?_ GE313.out)|exact HB.out)) hb);clear BK313;clear HB;have BK313:=n0_;have HB:=n1_;clear n0_ n1_;(try clear hb);(try clear hb2);(try clear hk);(try clear hi))|(go_at_call 74;(with_reducible refine (impl_speed.calls a2 t315 _ A8.out).mono ?_);rintro e w' ⟨rfl,⟨nd,rfl⟩⟩))
   go_meet
   case rel => exact ⟨_,(!t315),(by first|rfl|(simp;done)|(simp [*];done)),H',⟨by first|omega|exact Nat.le_refl _⟩,⟨by (with_reducible repeat (first|refine kN ?_ _|refine kD ?_|refine kA ?_ _));exact BK313.out⟩,⟨by repeat (first|(with_reducible first|exact HB.out|apply bA|apply bN|apply bD|refine bS ?_ GE313.out)|exact HB.out)⟩⟩
  ·replace c7:=Bool.eq_false_iff.mpr c7
   subst c7
   have H1 : (impl_StandAt.j0 k a1 a2 true l0_0 l0_1 a0_2 a0_3 a0_4) = some r:=by rw [if_neg (show ¬ (false = true) by decide)] at H;exact H
   clear H
   have H:=H1
   clear H1
   have H':=Am H
   clear H
   have hcz11_0 : w5.cell? ⟨gb313,0,none⟩ = some (.slice A0_0 l0_0.length c0_0):=(kC BK313.out 0).trans rfl
   have hcz11_1 : w5.cell? ⟨gb313,1,none⟩ = some (.slice A0_1 l0_1.length c0_1):=(kC BK313.out 1).trans rfl
   have hcz11_2 : w5.cell? ⟨gb313,2,none⟩ = some (.int .i64 a0_2):=(kC BK313.out 2).trans rfl
   have hcz11_3 : w5.cell? ⟨gb313,3,none⟩ = some (.int .i64 a0_3):=(kC BK313.out 3).trans rfl
   have hcz11_4 : w5.cell? ⟨gb313,4,none⟩ = some (.int .i64 a0_4):=(kC BK313.out 4).trans rfl
   have hfz11_0:=kF BK313.out 0
   have hfz11_1:=kF BK313.out 1
   have hfz11_2:=kF BK313.out 2
   have hfz11_3:=kF BK313.out 3
   have hfz11_4:=kF BK313.out 4
   go_wp2_with (first|((with_reducible refine gate_callee (f:=68) rfl ?_);refine goesL_ (some 10) rfl rfl Try.func68 (by kernel_rfl) rfl #[.agg #[.slice A0_0 l0_0.length c0_0,.slice A0_1 l0_1.length c0_1,.int .i64 a0_2,.int .i64 a0_3,.int .i64 a0_4],.int .i64 a1] rfl (by (try simp only [List.map_toArray,List.map_cons,List.map_nil]);first|done|rfl|(simp only [List.length_drop,List.length_take];rfl)) ?_;(with_reducible refine (impl_right.calls k _ _ l0_0 _ _ l0_1 a0_2 a0_3 a0_4 a1 false _ ?side1 ?side2 ?side3 ?side4 A6.out).mono ?_);(case side1 => repeat (first|exact (Kd.C_below HR0_0.out HB.out)|(with_reducible refine Kd.C_alloc ?_ _)|(with_reducible refine Kd.C_drewN ?_ _)|(with_reducible refine Kd.C_drew ?_)));(case side2 => exact HC0_0.out);(case side3 => repeat (first|exact (Kd.C_below HR0_1.out HB.out)|(with_reducible refine Kd.C_alloc ?_ _)|(with_reducible refine Kd.C_drewN ?_ _)|(with_reducible refine Kd.C_drew ?_)));(case side4 => exact HC0_1.out);rintro e w12 ⟨rfl,hb⟩;refine ⟨_,rfl,?_⟩;have n0_:=Am (blk_below (g:=gb313) (o:=.cells #[.slice A0_0 l0_0.length c0_0,.slice A0_1 l0_1.length c0_1,.int .i64 a0_2,.int .i64 a0_3,.int .i64 a0_4] 31 (0,0)) (by (with_reducible repeat (first|refine kN ?_ _|refine kD ?_|refine kA ?_ _));exact BK313.out) hb);have n1_:=Am (below_step (by repeat (first|(with_reducible first|exact HB.out|apply bA|apply bN|apply bD|refine bS ?_ GE313.out)|exact HB.out)) hb);clear BK313;clear HB;have BK313:=n0_;have HB:=n1_;clear n0_ n1_;(try clear hb);(try clear hb2);(try clear hk);(try clear hi)))
   go_meet
   case rel => exact ⟨_,(true),(by first|rfl|(simp;done)|(simp [*];done)),H',⟨by first|omega|exact Nat.le_refl _⟩,⟨by (with_reducible repeat (first|refine kN ?_ _|refine kD ?_|refine kA ?_ _));exact BK313.out⟩,⟨by repeat (first|(with_reducible first|exact HB.out|apply bA|apply bN|apply bD|refine bS ?_ GE313.out)|exact HB.out)⟩⟩
 case rest =>
  clear HC4
  try clear c2
  try clear p2
  try clear c6
  try clear c7
  try clear hcz11_0
  try clear hcz11_1
  try clear hcz11_2
  try clear hcz11_3
  try clear hcz11_4
  try clear hcz9_0
  try clear hcz9_1
  try clear hcz9_2
  try clear hcz9_3
  try clear hcz9_4
  try clear hfz11_0
  try clear hfz11_1
  try clear hfz11_2
  try clear hfz11_3
  try clear hfz11_4
  try clear hfz9_0
  try clear hfz9_1
  try clear hfz9_2
  try clear hfz9_3
  try clear hfz9_4
  obtain ⟨kq,x16_3,rfl,HA,HJ3,BK313,HB⟩:=hcut
  cases kq with
  | zero => exact absurd HA.out (by simp [impl_StandAt.j0])
  | succ kj3 =>
   have H:=HA.out
   clear HA
   simp only [impl_StandAt.j0] at H
   by_cases c13 : x16_3 = true
   ·subst c13
    have H1 : (some (-1)) = some r:=by rw [if_pos rfl] at H;exact H
    clear H
    have H:=H1
    clear H1
    obtain rfl:=Option.some.inj H
    go_wp2
    go_ret
    exact ⟨by first|rfl|(simp [errW_none,errW_some] <;> rfl)|(simp [*,errW_none,errW_some] <;> rfl),by repeat (first|(with_reducible first|exact HB.out|apply bA|apply bN|apply bD|refine bS ?_ GE313.out)|exact HB.out)⟩
   ·replace c13:=Bool.eq_false_iff.mpr c13
    subst c13
    have H1 : ((impl_total.f kj3 l0_0 l0_1 a0_2 a0_3 a0_4).bind fun t316 => (impl_StandAt.l0 kj3 a1 a2 t316 l0_0 l0_1 a0_2 a0_3 a0_4)) = some r:=by rw [if_neg (show ¬ (false = true) by decide)] at H;exact H
    clear H
    have H:=H1
    clear H1
    replace H:=Option.bind_eq_some_iff.mp H
    obtain ⟨t316,A140,H⟩:=H
    replace H : (impl_StandAt.l0 kj3 a1 a2 t316 l0_0 l0_1 a0_2 a0_3 a0_4) = some r:=H
    have A14:=Am A140
    clear A140
    have H':=Am H
    clear H
    have hcz15_0 : wc.cell? ⟨gb313,0,none⟩ = some (.slice A0_0 l0_0.length c0_0):=(kC BK313.out 0).trans rfl
    have hcz15_1 : wc.cell? ⟨gb313,1,none⟩ = some (.slice A0_1 l0_1.length c0_1):=(kC BK313.out 1).trans rfl
    have hcz15_2 : wc.cell? ⟨gb313,2,none⟩ = some (.int .i64 a0_2):=(kC BK313.out 2).trans rfl
    have hcz15_3 : wc.cell? ⟨gb313,3,none⟩ = some (.int .i64 a0_3):=(kC BK313.out 3).trans rfl
    have hcz15_4 : wc.cell? ⟨gb313,4,none⟩ = some (.int .i64 a0_4):=(kC BK313.out 4).trans rfl
    have hfz15_0:=kF BK313.out 0
    have hfz15_1:=kF BK313.out 1
    have hfz15_2:=kF BK313.out 2
    have hfz15_3:=kF BK313.out 3
    have hfz15_4:=kF BK313.out 4
    go_wp2_with (first|((with_reducible refine gate_callee (f:=75) rfl ?_);refine goesL_ (some 18) rfl rfl Try.func75 (by kernel_rfl) rfl #[.agg #[.slice A0_0 l0_0.length c0_0,.slice A0_1 l0_1.length c0_1,.int .i64 a0_2,.int .i64 a0_3,.int .i64 a0_4]] rfl (by (try simp only [List.map_toArray,List.map_cons,List.map_nil]);first|done|rfl|(simp only [List.length_drop,List.length_take];rfl)) ?_;(with_reducible refine (impl_total.calls kj3 _ _ l0_0 _ _ l0_1 a0_2 a0_3 a0_4 t316 _ ?side1 ?side2 ?side3 ?side4 A14.out).mono ?_);(case side1 => repeat (first|exact (Kd.C_below HR0_0.out HB.out)|(with_reducible refine Kd.C_alloc ?_ _)|(with_reducible refine Kd.C_drewN ?_ _)|(with_reducible refine Kd.C_drew ?_)));(case side2 => exact HC0_0.out);(case side3 => repeat (first|exact (Kd.C_below HR0_1.out HB.out)|(with_reducible refine Kd.C_alloc ?_ _)|(with_reducible refine Kd.C_drewN ?_ _)|(with_reducible refine Kd.C_drew ?_)));(case side4 => exact HC0_1.out);rintro e w16 ⟨rfl,hb⟩;refine ⟨_,rfl,?_⟩;have n0_:=Am (blk_below (g:=gb313) (o:=.cells #[.slice A0_0 l0_0.length c0_0,.slice A0_1 l0_1.length c0_1,.int .i64 a0_2,.int .i64 a0_3,.int .i64 a0_4] 31 (0,0)) (by (with_reducible repeat (first|refine kN ?_ _|refine kD ?_|refine kA ?_ _));exact BK313.out) hb);have n1_:=Am (below_step (by repeat (first|(with_reducible first|exact HB.out|apply bA|apply bN|apply bD|refine bS ?_ GE313.out)|exact HB.out)) hb);clear BK313;clear HB;have BK313:=n0_;have HB:=n1_;clear n0_ n1_;(try clear hb);(try clear hb2);(try clear hk);(try clear hi)))
    go_loopg [1,2] kj3 (fun kq v1 v2 w' => ∃ (x1_2 : Int) (x2_2 : Int),v1 = .int .i64 x1_2∧v2 = .int .i64 x2_2∧As (impl_StandAt.l0 kq x1_2 x2_2 t316 l0_0 l0_1 a0_2 a0_3 a0_4 = some r)∧As (kq ≤ kj3)∧As (w'.heap[gb313]? = some (.cells #[(.slice A0_0 l0_0.length c0_0),(.slice A0_1 l0_1.length c0_1),.int .i64 a0_2,.int .i64 a0_3,.int .i64 a0_4] 31 (0,0)))∧As (Below w.heap.size w w'))
    case atStart => exact ⟨(a1),(a2),(by first|rfl|(simp;done)|(simp [*];done)),(by first|rfl|(simp;done)|(simp [*];done)),H',⟨Nat.le_refl _⟩,⟨by (with_reducible repeat (first|refine kN ?_ _|refine kD ?_|refine kA ?_ _));exact BK313.out⟩,⟨by repeat (first|(with_reducible first|exact HB.out|apply bA|apply bN|apply bD|refine bS ?_ GE313.out)|exact HB.out)⟩⟩
    case round =>
     clear H'
     try clear c1
     try clear c2
     try clear p2
     try clear c6
     try clear c7
     try clear c13
     try clear hcz11_0
     try clear hcz11_1
     try clear hcz11_2
     try clear hcz11_3
     try clear hcz11_4
     try clear hcz15_0
     try clear hcz15_1
     try clear hcz15_2
     try clear hcz15_3
     try clear hcz15_4
     try clear hcz9_0
     try clear hcz9_1
     try clear hcz9_2
     try clear hcz9_3
     try clear hcz9_4
     try clear hfz11_0
     try clear hfz11_1
     try clear hfz11_2
     try clear hfz11_3
     try clear hfz11_4
     try clear hfz15_0
     try clear hfz15_1
     try clear hfz15_2
     try clear hfz15_3
     try clear hfz15_4
     try clear hfz9_0
     try clear hfz9_1
     try clear hfz9_2
     try clear hfz9_3
     try clear hfz9_4
     try clear p2
     obtain ⟨x1_2,x2_2,rfl,rfl,HA,HK2,BK313,HB⟩:=hrel
     cases gk with
     | zero => exact absurd HA.out (by simp [impl_StandAt.l0])
     | succ k2 =>
      have H:=HA.out
      clear HA
      simp only [impl_StandAt.l0] at H
      by_cases c17 : x2_2 > 0
      ·rw [if_pos c17] at H
       have c17b0 : decide (0 < x2_2) = true:=decide_eq_true c17
       clear c17
       replace H:=Option.bind_eq_some_iff.mp H
       obtain ⟨t317,A180,H⟩:=H
       replace H : (if (wrap64 (x1_2 + (mx (wrap64 (x2_2 - t317)) 0))) > t316 then (some (-1)) else (impl_StandAt.l0 k2 (wrap64 (x1_2 + (mx (wrap64 (x2_2 - t317)) 0))) (mx (wrap64 (x2_2 - t317)) 0) t316 l0_0 l0_1 a0_2 a0_3 a0_4)) = some r:=H
       have A18:=Am A180
       clear A180
       obtain ⟨ji19,hji19⟩ : ∃ j_ : Int,(mx (wrap64 (x2_2 - t317)) 0) = j_:=⟨_,rfl⟩
       replace H : (if (wrap64 (x1_2 + (ji19))) > t316 then (some (-1)) else (impl_StandAt.l0 k2 (wrap64 (x1_2 + (ji19))) ji19 t316 l0_0 l0_1 a0_2 a0_3 a0_4)) = some r:=by first|(rw [hji19] at H;exact H)|(simp only [hji19] at H ⊢;exact H)
       (try rw [hji19] at A18)
       have hji19_ : (if (wrap64 (x2_2 - t317)) < 0 then 0 else (wrap64 (x2_2 - t317))) = ji19:=hji19
       by_cases c20 : (wrap64 (x1_2 + (ji19))) > t316
       ·rw [if_pos c20] at H
        have c20b0 : decide (t316 < (wrap64 (x1_2 + (ji19)))) = true:=decide_eq_true c20
        clear c20
        obtain rfl:=Option.some.inj H
        have hcz21_0 : wr.cell? ⟨gb313,0,none⟩ = some (.slice A0_0 l0_0.length c0_0):=(kC BK313.out 0).trans rfl
        have hcz21_1 : wr.cell? ⟨gb313,1,none⟩ = some (.slice A0_1 l0_1.length c0_1):=(kC BK313.out 1).trans rfl
        have hcz21_2 : wr.cell? ⟨gb313,2,none⟩ = some (.int .i64 a0_2):=(kC BK313.out 2).trans rfl
        have hcz21_3 : wr.cell? ⟨gb313,3,none⟩ = some (.int .i64 a0_3):=(kC BK313.out 3).trans rfl
        have hcz21_4 : wr.cell? ⟨gb313,4,none⟩ = some (.int .i64 a0_4):=(kC BK313.out 4).trans rfl
        have hfz21_0:=kF BK313.out 0
        have hfz21_1:=kF BK313.out 1
        have hfz21_2:=kF BK313.out 2
        have hfz21_3:=kF BK313.out 3
        have hfz21_4:=kF BK313.out 4
        go_wp2_with (first|((with_reducible refine gate_callee (f:=71) rfl ?_);refine goesL_ (some 24) rfl rfl Try.func71 (by kernel_rfl) rfl #[.agg #[.slice A0_0 l0_0.length c0_0,.slice A0_1 l0_1.length c0_1,.int .i64 a0_2,.int .i64 a0_3,.int .i64 a0_4],.int .i64 x1_2] rfl (by (try simp only [List.map_toArray,List.map_cons,List.map_nil]);first|done|rfl|(simp only [List.length_drop,List.length_take];rfl)) ?_;(with_reducible refine (impl_brakeAt.calls k2 _ _ l0_0 _ _ l0_1 a0_2 a0_3 a0_4 x1_2 t317 _ ?side1 ?side2 ?side3 ?side4 A18.out).mono ?_);(case side1 => repeat (first|exact (Kd.C_below HR0_0.out HB.out)|(with_reducible refine Kd.C_alloc ?_ _)|(with_reducible refine Kd.C_drewN ?_ _)|(with_reducible refine Kd.C_drew ?_)));(case side2 => exact HC0_0.out);(case side3 => repeat (first|exact (Kd.C_below HR0_1.out HB.out)|(with_reducible refine Kd.C_alloc ?_ _)|(with_reducible refine Kd.C_drewN ?_ _)|(with_reducible refine Kd.C_drew ?_)));(case side4 => exact HC0_1.out);rintro e w22 ⟨rfl,hb⟩;refine ⟨_,rfl,?_⟩;have n0_:=Am (blk_below (g:=gb313) (o:=.cells #[.slice A0_0 l0_0.length c0_0,.slice A0_1 l0_1.length c0_1,.int .i64 a0_2,.int .i64 a0_3,.int .i64 a0_4] 31 (0,0)) (by (with_reducible repeat (first|refine kN ?_ _|refine kD ?_|refine kA ?_ _));exact BK313.out) hb);have n1_:=Am (below_step (by repeat (first|(with_reducible first|exact HB.out|apply bA|apply bN|apply bD|refine bS ?_ GE313.out)|exact HB.out)) hb);clear BK313;clear HB;have BK313:=n0_;have HB:=n1_;clear n0_ n1_;(try clear hb);(try clear hb2);(try clear hk);(try clear hi)))
        go_ret
        exact ⟨by first|rfl|(simp [errW_none,errW_some] <;> rfl)|(simp only [← hji19];first|rfl|(simp [errW_none,errW_some] <;> rfl))|(simp [*,errW_none,errW_some] <;> rfl),by repeat (first|(with_reducible first|exact HB.out|apply bA|apply bN|apply bD|refine bS ?_ GE313.out)|exact HB.out)⟩
       ·rw [if_neg c20] at H
        have c20b0 : decide (t316 < (wrap64 (x1_2 + (ji19)))) = false:=decide_eq_false c20
        clear c20
        have H':=Am H
        clear H
        have hcz23_0 : wr.cell? ⟨gb313,0,none⟩ = some (.slice A0_0 l0_0.length c0_0):=(kC BK313.out 0).trans rfl
        have hcz23_1 : wr.cell? ⟨gb313,1,none⟩ = some (.slice A0_1 l0_1.length c0_1):=(kC BK313.out 1).trans rfl
        have hcz23_2 : wr.cell? ⟨gb313,2,none⟩ = some (.int .i64 a0_2):=(kC BK313.out 2).trans rfl
        have hcz23_3 : wr.cell? ⟨gb313,3,none⟩ = some (.int .i64 a0_3):=(kC BK313.out 3).trans rfl
        have hcz23_4 : wr.cell? ⟨gb313,4,none⟩ = some (.int .i64 a0_4):=(kC BK313.out 4).trans rfl
        have hfz23_0:=kF BK313.out 0
        have hfz23_1:=kF BK313.out 1
        have hfz23_2:=kF BK313.out 2
        have hfz23_3:=kF BK313.out 3
        have hfz23_4:=kF BK313.out 4
        go_wp2_with (first|((with_reducible refine gate_callee (f:=71) rfl ?_);refine goesL_ (some 24) rfl rfl Try.func71 (by kernel_rfl) rfl #[.agg #[.slice A0_0 l0_0.length c0_0,.slice A0_1 l0_1.length c0_1,.int .i64 a0_2,.int .i64 a0_3,.int .i64 a0_4],.int .i64 x1_2] rfl (by (try simp only [List.map_toArray,List.map_cons,List.map_nil]);first|done|rfl|(simp only [List.length_drop,List.length_take];rfl)) ?_;(with_reducible refine (impl_brakeAt.calls k2 _ _ l0_0 _ _ l0_1 a0_2 a0_3 a0_4 x1_2 t317 _ ?side1 ?side2 ?side3 ?side4 A18.out).mono ?_);(case side1 => repeat (first|exact (Kd.C_below HR0_0.out HB.out)|(with_reducible refine Kd.C_alloc ?_ _)|(with_reducible refine Kd.C_drewN ?_ _)|(with_reducible refine Kd.C_drew ?_)));(case side2 => exact HC0_0.out);(case side3 => repeat (first|exact (Kd.C_below HR0_1.out HB.out)|(with_reducible refine Kd.C_alloc ?_ _)|(with_reducible refine Kd.C_drewN ?_ _)|(with_reducible refine Kd.C_drew ?_)));(case side4 => exact HC0_1.out);rintro e w24 ⟨rfl,hb⟩;refine ⟨_,rfl,?_⟩;have n0_:=Am (blk_below (g:=gb313) (o:=.cells #[.slice A0_0 l0_0.length c0_0,.slice A0_1 l0_1.length c0_1,.int .i64 a0_2,.int .i64 a0_3,.int .i64 a0_4] 31 (0,0)) (by (with_reducible repeat (first|refine kN ?_ _|refine kD ?_|refine kA ?_ _));exact BK313.out) hb);have n1_:=Am (below_step (by repeat (first|(with_reducible first|exact HB.out|apply bA|apply bN|apply bD|refine bS ?_ GE313.out)|exact HB.out)) hb);clear BK313;clear HB;have BK313:=n0_;have HB:=n1_;clear n0_ n1_;(try clear hb);(try clear hb2);(try clear hk);(try clear hi)))
        go_roundg k2
        case measure => have:=HJ3.out;have:=HK2.out;omega
        case rel => exact ⟨(wrap64 (x1_2 + (ji19))),(ji19),(by first|rfl|(simp;done)|(simp only [← hji19] <;> (first|rfl|simp))|(simp [*];done)),(by first|rfl|(simp;done)|(simp only [← hji19] <;> (first|rfl|simp))|(simp [*];done)),H',⟨by have:=HJ3.out;have:=HK2.out;omega⟩,⟨by (with_reducible repeat (first|refine kN ?_ _|refine kD ?_|refine kA ?_ _));exact BK313.out⟩,⟨by repeat (first|(with_reducible first|exact HB.out|apply bA|apply bN|apply bD|refine bS ?_ GE313.out)|exact HB.out)⟩⟩
      ·rw [if_neg c17] at H
       have c17b0 : decide (0 < x2_2) = false:=decide_eq_false c17
       clear c17
       obtain rfl:=Option.some.inj H
       go_wp2
       go_ret
       exact ⟨by first|rfl|(simp [errW_none,errW_some] <;> rfl)|(simp [*,errW_none,errW_some] <;> rfl),by repeat (first|(with_reducible first|exact HB.out|apply bA|apply bN|apply bD|refine bS ?_ GE313.out)|exact HB.out)⟩

end Go.Proofs.Ytgakkndbcilclaa.PA
