-- Written by a program of this session (wip/print/myprint.py) over the kit's print, with contracts of its own; not a text of print.sh's.
import Derived.Test.YtgakkndbcilclaaPAx0
import Derived.Test.YtgakkndbcilclaaPAx7
namespace Go.Proofs.Ytgakkndbcilclaa.PA
open Go.RowKit Go.Proofs.YtgakkndbcilclaaW.PrintWords Go.Proofs.YtgakkndbcilclaaW.PrintLast Go.Proofs.YtgakkndbcilclaaW.PrintMore
attribute [local go_sem] max2_int min2_int max_two min_two   -- for this text's walks alone
set_option linter.unusedVariables false
set_option linter.unusedSimpArgs false

/-! ### impl_total: function 75 -/
def impl_total.l0 : Nat → Int → List (S71) → Int → Int → Option (Int)
 | 0,_,_,_,_ => none
 | k + 1,x3,x7,x8,x9 => if x9 < x8 then (if 0 ≤ x9 then (if x9 < (x7.length : Int) then (impl_total.l0 k (wrap64 (x3 + ((rd_T71 x7 x9).f0))) x7 x8 (wrap64 (x9 + 1))) else (none)) else (none)) else (some x3)
def impl_total.f (k : Nat) (l0_0 : List (S71)) (l0_1 : List (S75)) (a0_2 : Int) (a0_3 : Int) (a0_4 : Int) : Option (Int):=impl_total.l0 k 0 l0_0 (l0_0.length : Int) 0
theorem impl_total.mono_l : ∀ k,(∀ y0 y1 y2 y3,LeO (impl_total.l0 k y0 y1 y2 y3) (impl_total.l0 (k + 1) y0 y1 y2 y3))
 | 0 => fun _ _ _ _ r h => by simp [impl_total.l0] at h
 | k + 1 => by
  have ih0:=impl_total.mono_l k
  ·intro y0 y1 y2 y3
   unfold impl_total.l0
   repeat' first
   | (with_reducible exact ih0 _ _ _ _)
   | (with_reducible exact LeO.refl _)
   | (with_reducible exact LeO.none _)
   | (with_reducible refine LeO.ite ?_ ?_)
   | (with_reducible refine LeO.bind ?_ (fun _ => ?_))
   | exact ih0 _ _ _ _
   | exact LeO.none _
   | refine LeO.ite ?_ ?_
   | refine LeO.bind ?_ (fun _ => ?_)
theorem impl_total.mono : ∀ a0 a1 a2 a3 a4 k,LeO (impl_total.f k a0 a1 a2 a3 a4) (impl_total.f (k + 1) a0 a1 a2 a3 a4):=by
 intro a0 a1 a2 a3 a4 k
 have ih0:=impl_total.mono_l k
 unfold impl_total.f
 repeat' first
   | (with_reducible exact ih0 _ _ _ _)
   | (with_reducible exact LeO.refl _)
   | (with_reducible exact LeO.none _)
   | (with_reducible refine LeO.ite ?_ ?_)
   | (with_reducible refine LeO.bind ?_ (fun _ => ?_))
   | exact ih0 _ _ _ _
   | exact LeO.none _
   | refine LeO.ite ?_ ?_
   | refine LeO.bind ?_ (fun _ => ?_)
set_option maxHeartbeats 8000000 in
set_option maxRecDepth 100000 in
theorem impl_total.calls (k : Nat) (A0_0 : Option Addr) (c0_0 : Nat) (l0_0 : List (S71)) (A0_1 : Option Addr) (c0_1 : Nat) (l0_1 : List (S75)) (a0_2 : Int) (a0_3 : Int) (a0_4 : Int) (r : Int) (w : World) (hr0_0 : Kd.C k71 w A0_0 l0_0.length l0_0) (hc0_0 : l0_0.length ≤ c0_0) (hr0_1 : Kd.C k75 w A0_1 l0_1.length l0_1) (hc0_1 : l0_1.length ≤ c0_1) (h : impl_total.f k l0_0 l0_1 a0_2 a0_3 a0_4 = some r) :
  Calls Try.prog 75 #[.agg #[.slice A0_0 l0_0.length c0_0,.slice A0_1 l0_1.length c0_1,.int .i64 a0_2,.int .i64 a0_3,.int .i64 a0_4]] w fun e w' => e = .returned (.int .i64 r)∧Below w.heap.size w w':=by
 have hu31:=Try.underlying31
 have hu71:=Try.underlying71
 have HR0_0:=Am hr0_0
 have HC0_0:=Am hc0_0
 clear hr0_0 hc0_0
 have HR0_1:=Am hr0_1
 have HC0_1:=Am hc0_1
 clear hr0_1 hc0_1
 have HB:=Am (Below.refl w.heap.size w)
 have H : (impl_total.l0 k 0 l0_0 (l0_0.length : Int) 0) = some r:=h
 clear h
 have H':=Am H
 clear H
 go_enter Try.func75,Try.ntmps75
 go_wp2_with (first|((with_reducible refine gate_dst (N:=1) rfl ?_);refine box_event ?hg (N:=1) ?hd (cs:=#[.slice A0_0 l0_0.length c0_0,.slice A0_1 l0_1.length c0_1,.int .i64 a0_2,.int .i64 a0_3,.int .i64 a0_4]) (t:=31) ?hr ?_;(case hd => rfl);(case hg => rfl);(case hr => first|(go_simp;done)|(go_simp;rfl));intro gb209 hg w2 hbox hb;have n0_:=Am (below_step (by repeat (first|(with_reducible first|exact HB.out|apply bA|apply bN|apply bD)|exact HB.out)) hb);have n1_:=Am (hbox);have n2_:=Am ((by rw [hg];exact (below_size (by repeat (first|(with_reducible first|exact HB.out|apply bA|apply bN|apply bD)|exact HB.out))) : w.heap.size ≤ gb209));have n3_:=Am ((by rw [hg];exact (below_size (by repeat (first|(with_reducible first|exact HB.out|apply bA|apply bN|apply bD)|exact HB.out))) : w.heap.size ≤ gb209));clear HB;have HB:=n0_;have BK209:=n1_;have GW209:=n2_;have GE209:=n3_;clear n0_ n1_ n2_ n3_;clear hb hbox hg;have hcz3_0 : w2.cell? ⟨gb209,0,none⟩ = some (.slice A0_0 l0_0.length c0_0):=(kC BK209.out 0).trans rfl;have hcz3_1 : w2.cell? ⟨gb209,1,none⟩ = some (.slice A0_1 l0_1.length c0_1):=(kC BK209.out 1).trans rfl;have hcz3_2 : w2.cell? ⟨gb209,2,none⟩ = some (.int .i64 a0_2):=(kC BK209.out 2).trans rfl;have hcz3_3 : w2.cell? ⟨gb209,3,none⟩ = some (.int .i64 a0_3):=(kC BK209.out 3).trans rfl;have hcz3_4 : w2.cell? ⟨gb209,4,none⟩ = some (.int .i64 a0_4):=(kC BK209.out 4).trans rfl;have hfz3_0:=kF BK209.out 0;have hfz3_1:=kF BK209.out 1;have hfz3_2:=kF BK209.out 2;have hfz3_3:=kF BK209.out 3;have hfz3_4:=kF BK209.out 4))
 go_loopg [3,9] k (fun kq v3 v9 w' => ∃ (x3_1 : Int) (x9_1 : Int),v3 = .int .i64 x3_1∧v9 = .int .i64 x9_1∧As (impl_total.l0 kq x3_1 l0_0 (l0_0.length : Int) x9_1 = some r)∧As (kq ≤ k)∧As (w'.heap[gb209]? = some (.cells #[(.slice A0_0 l0_0.length c0_0),(.slice A0_1 l0_1.length c0_1),.int .i64 a0_2,.int .i64 a0_3,.int .i64 a0_4] 31 (0,0)))∧As (Below w.heap.size w w'))
 case atStart => exact ⟨(0),(0),(by first|rfl|(simp;done)|(simp [*];done)),(by first|rfl|(simp;done)|(simp [*];done)),H',⟨Nat.le_refl _⟩,⟨by (with_reducible repeat (first|refine kN ?_ _|refine kD ?_|refine kA ?_ _));exact BK209.out⟩,⟨by repeat (first|(with_reducible first|exact HB.out|apply bA|apply bN|apply bD|refine bS ?_ GE209.out)|exact HB.out)⟩⟩
 case round =>
  clear H'
  try clear p2
  try clear hcz3_0
  try clear hcz3_1
  try clear hcz3_2
  try clear hcz3_3
  try clear hcz3_4
  try clear hfz3_0
  try clear hfz3_1
  try clear hfz3_2
  try clear hfz3_3
  try clear hfz3_4
  obtain ⟨x3_1,x9_1,rfl,rfl,HA,HK1,BK209,HB⟩:=hrel
  cases gk with
  | zero => exact absurd HA.out (by simp [impl_total.l0])
  | succ k1 =>
   have H:=HA.out
   clear HA
   simp only [impl_total.l0] at H
   by_cases c4 : x9_1 < (l0_0.length : Int)
   ·rw [if_pos c4] at H
    have c4b0 : decide (x9_1 < (l0_0.length : Int)) = true:=decide_eq_true c4
    clear c4
    by_cases c5 : 0 ≤ x9_1
    ·rw [if_pos c5] at H
     have c5b0 : decide (0 ≤ x9_1) = true:=decide_eq_true c5
     clear c5
     by_cases c6 : x9_1 < (l0_0.length : Int)
     ·rw [if_pos c6] at H
      have c6b0 : decide (x9_1 < (l0_0.length : Int)) = true:=decide_eq_true c6
      clear c6
      have H':=Am H
      clear H
      have p210 : 0 ≤ (x9_1 : Int):=of_decide_eq_true (by first|(with_reducible assumption)|assumption)
      have q210 : x9_1 < (l0_0.length : Int):=of_decide_eq_true (by first|(with_reducible assumption)|assumption)
      obtain ⟨ad210,e210,hx210_0,hx210_1⟩:=at_T71 HR0_0.out x9_1 p210 q210
      cases e210
      replace hx210_0:=(HB.out.cell (World.block_lt_of_cell? w _ hx210_0)).trans hx210_0
      replace hx210_1:=(HB.out.cell (World.block_lt_of_cell? w _ hx210_1)).trans hx210_1
      replace p210:=eq_true p210
      replace q210:=eq_true q210
      go_wp2_with (first|((with_reducible refine gate_dst (N:=5) rfl ?_);refine box_event ?hg (N:=5) ?hd (cs:=#[.int .i64 0,.int .i64 0]) (t:=71) ?hr ?_;(case hd => rfl);(case hg => rfl);(case hr => first|(go_simp;done)|(go_simp;rfl));intro gb211 hg w7 hbox hb;have n0_:=Am (blk_below (g:=gb209) (o:=.cells #[.slice (some ad210) l0_0.length c0_0,.slice A0_1 l0_1.length c0_1,.int .i64 a0_2,.int .i64 a0_3,.int .i64 a0_4] 31 (0,0)) (by (with_reducible repeat (first|refine kN ?_ _|refine kD ?_|refine kA ?_ _));exact BK209.out) hb);have n1_:=Am (below_step (by repeat (first|(with_reducible first|exact HB.out|apply bA|apply bN|apply bD|refine bS ?_ GE209.out)|exact HB.out)) hb);have n2_:=Am (hbox);have n3_:=Am ((by rw [hg];exact (below_size (by repeat (first|(with_reducible first|exact HB.out|apply bA|apply bN|apply bD|refine bS ?_ GE209.out)|exact HB.out))) : w.heap.size ≤ gb211));have n4_:=Am ((by rw [hg];exact (below_size (by repeat (first|(with_reducible first|exact HB.out|apply bA|apply bN|apply bD|refine bS ?_ GE209.out)|exact HB.out))) : w.heap.size ≤ gb211));have n5_:=Am ((by rw [hg];exact Nat.ne_of_lt (blk_lt (g:=gb209) (o:=.cells #[.slice (some ad210) l0_0.length c0_0,.slice A0_1 l0_1.length c0_1,.int .i64 a0_2,.int .i64 a0_3,.int .i64 a0_4] 31 (0,0)) (by (with_reducible repeat (first|refine kN ?_ _|refine kD ?_|refine kA ?_ _));exact BK209.out)) : gb209 ≠ gb211));have n6_:=Am ((by rw [hg];exact Nat.ne_of_gt (blk_lt (g:=gb209) (o:=.cells #[.slice (some ad210) l0_0.length c0_0,.slice A0_1 l0_1.length c0_1,.int .i64 a0_2,.int .i64 a0_3,.int .i64 a0_4] 31 (0,0)) (by (with_reducible repeat (first|refine kN ?_ _|refine kD ?_|refine kA ?_ _));exact BK209.out)) : gb211 ≠ gb209));clear BK209;clear HB;have BK209:=n0_;have HB:=n1_;have BK211:=n2_;have GW211:=n3_;have GE211:=n4_;have NB209_211:=n5_;have NB211_209:=n6_;clear n0_ n1_ n2_ n3_ n4_ n5_ n6_;clear hb hbox hg;have hnb8:=NB211_209.out;have hnc8:=NB209_211.out;have hcz9_0 : w7.cell? ⟨gb211,0,none⟩ = some (.int .i64 0):=(kC BK211.out 0).trans rfl;have hcz9_1 : w7.cell? ⟨gb211,1,none⟩ = some (.int .i64 0):=(kC BK211.out 1).trans rfl;have hfz9_0:=kF BK211.out 0;have hfz9_1:=kF BK211.out 1))
      go_roundg k1
      case measure => have:=HK1.out;omega
      case rel => exact ⟨(wrap64 (x3_1 + ((rd_T71 l0_0 x9_1).f0))),(wrap64 (x9_1 + 1)),(by first|rfl|(simp;done)|(simp [*];done)),(by first|rfl|(simp;done)|(simp [*];done)),H',⟨by have:=HK1.out;omega⟩,⟨by (with_reducible repeat (first|refine kN ?_ _|refine kD ?_|refine kA ?_ _));refine blk_far ?_ NB209_211.out _;(with_reducible repeat (first|refine kN ?_ _|refine kD ?_|refine kA ?_ _));refine blk_far ?_ NB209_211.out _;(with_reducible repeat (first|refine kN ?_ _|refine kD ?_|refine kA ?_ _));exact BK209.out⟩,⟨by repeat (first|(with_reducible first|exact HB.out|apply bA|apply bN|apply bD|refine bS ?_ GE209.out|refine bS ?_ GE211.out)|exact HB.out)⟩⟩
     ·rw [if_neg c6] at H
      exact absurd H (by simp)
    ·rw [if_neg c5] at H
     exact absurd H (by simp)
   ·rw [if_neg c4] at H
    have c4b0 : decide (x9_1 < (l0_0.length : Int)) = false:=decide_eq_false c4
    clear c4
    obtain rfl:=Option.some.inj H
    go_wp2
    go_ret
    exact ⟨by first|rfl|(simp [errW_none,errW_some] <;> rfl)|(simp [*,errW_none,errW_some] <;> rfl),by repeat (first|(with_reducible first|exact HB.out|apply bA|apply bN|apply bD|refine bS ?_ GE209.out)|exact HB.out)⟩

/-! ### impl_right: function 68 -/
def impl_right.f (k : Nat) (l0_0 : List (S71)) (l0_1 : List (S75)) (a0_2 : Int) (a0_3 : Int) (a0_4 : Int) (a1 : Int) : Option (Bool):=(impl_ProfileOk.f l0_0 l0_1 a0_2 a0_3 a0_4).bind fun t213 => (if t213 = 0 then (if a1 ≥ 0 then ((impl_total.f k l0_0 l0_1 a0_2 a0_3 a0_4).bind fun t214 => (some (decide (a1 ≤ t214)))) else (some false)) else (some false))
theorem impl_right.mono : ∀ a0 a1 a2 a3 a4 a5 k,LeO (impl_right.f k a0 a1 a2 a3 a4 a5) (impl_right.f (k + 1) a0 a1 a2 a3 a4 a5):=by
 intro a0 a1 a2 a3 a4 a5 k
 unfold impl_right.f
 repeat' first
   | (with_reducible exact impl_total.mono _ _ _ _ _ _)
   | (with_reducible exact LeO.refl _)
   | (with_reducible exact LeO.none _)
   | (with_reducible refine LeO.ite ?_ ?_)
   | (with_reducible refine LeO.bind ?_ (fun _ => ?_))
   | exact impl_total.mono _ _ _ _ _ _
   | exact LeO.none _
   | refine LeO.ite ?_ ?_
   | refine LeO.bind ?_ (fun _ => ?_)
set_option maxHeartbeats 8000000 in
set_option maxRecDepth 100000 in
theorem impl_right.calls (k : Nat) (A0_0 : Option Addr) (c0_0 : Nat) (l0_0 : List (S71)) (A0_1 : Option Addr) (c0_1 : Nat) (l0_1 : List (S75)) (a0_2 : Int) (a0_3 : Int) (a0_4 : Int) (a1 : Int) (r : Bool) (w : World) (hr0_0 : Kd.C k71 w A0_0 l0_0.length l0_0) (hc0_0 : l0_0.length ≤ c0_0) (hr0_1 : Kd.C k75 w A0_1 l0_1.length l0_1) (hc0_1 : l0_1.length ≤ c0_1) (h : impl_right.f k l0_0 l0_1 a0_2 a0_3 a0_4 a1 = some r) :
  Calls Try.prog 68 #[.agg #[.slice A0_0 l0_0.length c0_0,.slice A0_1 l0_1.length c0_1,.int .i64 a0_2,.int .i64 a0_3,.int .i64 a0_4],.int .i64 a1] w fun e w' => e = .returned (.bool r)∧Below w.heap.size w w':=by
 have hu31:=Try.underlying31
 have HR0_0:=Am hr0_0
 have HC0_0:=Am hc0_0
 clear hr0_0 hc0_0
 have HR0_1:=Am hr0_1
 have HC0_1:=Am hc0_1
 clear hr0_1 hc0_1
 have HB:=Am (Below.refl w.heap.size w)
 have H : ((impl_ProfileOk.f l0_0 l0_1 a0_2 a0_3 a0_4).bind fun t213 => (if t213 = 0 then (if a1 ≥ 0 then ((impl_total.f k l0_0 l0_1 a0_2 a0_3 a0_4).bind fun t214 => (some (decide (a1 ≤ t214)))) else (some false)) else (some false))) = some r:=h
 clear h
 replace H:=Option.bind_eq_some_iff.mp H
 obtain ⟨t213,A30,H⟩:=H
 replace H : (if t213 = 0 then (if a1 ≥ 0 then ((impl_total.f k l0_0 l0_1 a0_2 a0_3 a0_4).bind fun t214 => (some (decide (a1 ≤ t214)))) else (some false)) else (some false)) = some r:=H
 have A3:=Am A30
 clear A30
 by_cases c4 : t213 = 0
 ·rw [if_pos c4] at H
  have c4b0 : (t213 == 0) = true:=beq_iff_eq.mpr c4
  have c4b1 : (t213 != 0) = false:=bne_eq_false_iff_eq.mpr c4
  clear c4
  by_cases c5 : a1 ≥ 0
  ·rw [if_pos c5] at H
   have c5b0 : decide (0 ≤ a1) = true:=decide_eq_true c5
   clear c5
   replace H:=Option.bind_eq_some_iff.mp H
   obtain ⟨t214,A60,H⟩:=H
   replace H : (some (decide (a1 ≤ t214))) = some r:=H
   have A6:=Am A60
   clear A60
   obtain rfl:=Option.some.inj H
   go_enter Try.func68,Try.ntmps68
   go_wp2_with (first|((with_reducible refine gate_dst (N:=2) rfl ?_);refine box_event ?hg (N:=2) ?hd (cs:=#[.slice A0_0 l0_0.length c0_0,.slice A0_1 l0_1.length c0_1,.int .i64 a0_2,.int .i64 a0_3,.int .i64 a0_4]) (t:=31) ?hr ?_;(case hd => rfl);(case hg => rfl);(case hr => first|(go_simp;done)|(go_simp;rfl));intro gb212 hg w7 hbox hb;have n0_:=Am (below_step (by repeat (first|(with_reducible first|exact HB.out|apply bA|apply bN|apply bD)|exact HB.out)) hb);have n1_:=Am (hbox);have n2_:=Am ((by rw [hg];exact (below_size (by repeat (first|(with_reducible first|exact HB.out|apply bA|apply bN|apply bD)|exact HB.out))) : w.heap.size ≤ gb212));have n3_:=Am ((by rw [hg];exact (below_size (by repeat (first|(with_reducible first|exact HB.out|apply bA|apply bN|apply bD)|exact HB.out))) : w.heap.size ≤ gb212));clear HB;have HB:=n0_;have BK212:=n1_;have GW212:=n2_;have GE212:=n3_;clear n0_ n1_ n2_ n3_;clear hb hbox hg;have hcz8_0 : w7.cell? ⟨gb212,0,none⟩ = some (.slice A0_0 l0_0.length c0_0):=(kC BK212.out 0).trans rfl;have hcz8_1 : w7.cell? ⟨gb212,1,none⟩ = some (.slice A0_1 l0_1.length c0_1):=(kC BK212.out 1).trans rfl;have hcz8_2 : w7.cell? ⟨gb212,2,none⟩ = some (.int .i64 a0_2):=(kC BK212.out 2).trans rfl;have hcz8_3 : w7.cell? ⟨gb212,3,none⟩ = some (.int .i64 a0_3):=(kC BK212.out 3).trans rfl;have hcz8_4 : w7.cell? ⟨gb212,4,none⟩ = some (.int .i64 a0_4):=(kC BK212.out 4).trans rfl;have hfz8_0:=kF BK212.out 0;have hfz8_1:=kF BK212.out 1;have hfz8_2:=kF BK212.out 2;have hfz8_3:=kF BK212.out 3;have hfz8_4:=kF BK212.out 4)|((with_reducible refine gate_callee (f:=17) rfl ?_);refine goesL_ (some 6) rfl rfl Try.func17 (by kernel_rfl) rfl #[.agg #[.slice A0_0 l0_0.length c0_0,.slice A0_1 l0_1.length c0_1,.int .i64 a0_2,.int .i64 a0_3,.int .i64 a0_4]] rfl (by (try simp only [List.map_toArray,List.map_cons,List.map_nil]);first|done|rfl|(simp only [List.length_drop,List.length_take];rfl)) ?_;(with_reducible refine (impl_ProfileOk.calls _ _ l0_0 _ _ l0_1 a0_2 a0_3 a0_4 t213 _ ?side1 ?side2 ?side3 ?side4 A3.out).mono ?_);(case side1 => repeat (first|exact (Kd.C_below HR0_0.out HB.out)|(with_reducible refine Kd.C_alloc ?_ _)|(with_reducible refine Kd.C_drewN ?_ _)|(with_reducible refine Kd.C_drew ?_)));(case side2 => exact HC0_0.out);(case side3 => repeat (first|exact (Kd.C_below HR0_1.out HB.out)|(with_reducible refine Kd.C_alloc ?_ _)|(with_reducible refine Kd.C_drewN ?_ _)|(with_reducible refine Kd.C_drew ?_)));(case side4 => exact HC0_1.out);rintro e w9 ⟨rfl,hb⟩;refine ⟨_,rfl,?_⟩;have n0_:=Am (blk_below (g:=gb212) (o:=.cells #[.slice A0_0 l0_0.length c0_0,.slice A0_1 l0_1.length c0_1,.int .i64 a0_2,.int .i64 a0_3,.int .i64 a0_4] 31 (0,0)) (by (with_reducible repeat (first|refine kN ?_ _|refine kD ?_|refine kA ?_ _));exact BK212.out) hb);have n1_:=Am (below_step (by repeat (first|(with_reducible first|exact HB.out|apply bA|apply bN|apply bD|refine bS ?_ GE212.out)|exact HB.out)) hb);clear BK212;clear HB;have BK212:=n0_;have HB:=n1_;clear n0_ n1_;(try clear hb);(try clear hb2);(try clear hk);(try clear hi);have hcz10_0 : w9.cell? ⟨gb212,0,none⟩ = some (.slice A0_0 l0_0.length c0_0):=(kC BK212.out 0).trans rfl;have hcz10_1 : w9.cell? ⟨gb212,1,none⟩ = some (.slice A0_1 l0_1.length c0_1):=(kC BK212.out 1).trans rfl;have hcz10_2 : w9.cell? ⟨gb212,2,none⟩ = some (.int .i64 a0_2):=(kC BK212.out 2).trans rfl;have hcz10_3 : w9.cell? ⟨gb212,3,none⟩ = some (.int .i64 a0_3):=(kC BK212.out 3).trans rfl;have hcz10_4 : w9.cell? ⟨gb212,4,none⟩ = some (.int .i64 a0_4):=(kC BK212.out 4).trans rfl;have hfz10_0:=kF BK212.out 0;have hfz10_1:=kF BK212.out 1;have hfz10_2:=kF BK212.out 2;have hfz10_3:=kF BK212.out 3;have hfz10_4:=kF BK212.out 4)|(go_at_call 75;(with_reducible refine (impl_total.calls k _ _ l0_0 _ _ l0_1 a0_2 a0_3 a0_4 t214 _ ?side1 ?side2 ?side3 ?side4 A6.out).mono ?_);(case side1 => repeat (first|exact (Kd.C_below HR0_0.out HB.out)|(with_reducible refine Kd.C_alloc ?_ _)|(with_reducible refine Kd.C_drewN ?_ _)|(with_reducible refine Kd.C_drew ?_)));(case side2 => exact HC0_0.out);(case side3 => repeat (first|exact (Kd.C_below HR0_1.out HB.out)|(with_reducible refine Kd.C_alloc ?_ _)|(with_reducible refine Kd.C_drewN ?_ _)|(with_reducible refine Kd.C_drew ?_)));(case side4 => exact HC0_1.out);rintro e w11 ⟨rfl,hb⟩;have n0_:=Am (blk_below (g:=gb212) (o:=.cells #[.slice A0_0 l0_0.length c0_0,.slice A0_1 l0_1.length c0_1,.int .i64 a0_2,.int .i64 a0_3,.int .i64 a0_4] 31 (0,0)) (by (with_reducible repeat (first|refine kN ?_ _|refine kD ?_|refine kA ?_ _));exact BK212.out) hb);have n1_:=Am (below_step (by repeat (first|(with_reducible first|exact HB.out|apply bA|apply bN|apply bD|refine bS ?_ GE212.out)|exact HB.out)) hb);clear BK212;clear HB;have BK212:=n0_;have HB:=n1_;clear n0_ n1_;(try clear hb);(try clear hb2);(try clear hk);(try clear hi)))
   go_ret
   exact ⟨by first|rfl|(simp [errW_none,errW_some] <;> rfl)|(simp [*,errW_none,errW_some] <;> rfl),by repeat (first|(with_reducible first|exact HB.out|apply bA|apply bN|apply bD|refine bS ?_ GE212.out)|exact HB.out)⟩
  ·rw [if_neg c5] at H
   have c5b0 : decide (0 ≤ a1) = false:=decide_eq_false c5
   clear c5
   obtain rfl:=Option.some.inj H
   go_enter Try.func68,Try.ntmps68
   go_wp2_with (first|((with_reducible refine gate_dst (N:=2) rfl ?_);refine box_event ?hg (N:=2) ?hd (cs:=#[.slice A0_0 l0_0.length c0_0,.slice A0_1 l0_1.length c0_1,.int .i64 a0_2,.int .i64 a0_3,.int .i64 a0_4]) (t:=31) ?hr ?_;(case hd => rfl);(case hg => rfl);(case hr => first|(go_simp;done)|(go_simp;rfl));intro gb212 hg w12 hbox hb;have n0_:=Am (below_step (by repeat (first|(with_reducible first|exact HB.out|apply bA|apply bN|apply bD)|exact HB.out)) hb);have n1_:=Am (hbox);have n2_:=Am ((by rw [hg];exact (below_size (by repeat (first|(with_reducible first|exact HB.out|apply bA|apply bN|apply bD)|exact HB.out))) : w.heap.size ≤ gb212));have n3_:=Am ((by rw [hg];exact (below_size (by repeat (first|(with_reducible first|exact HB.out|apply bA|apply bN|apply bD)|exact HB.out))) : w.heap.size ≤ gb212));clear HB;have HB:=n0_;have BK212:=n1_;have GW212:=n2_;have GE212:=n3_;clear n0_ n1_ n2_ n3_;clear hb hbox hg;have hcz13_0 : w12.cell? ⟨gb212,0,none⟩ = some (.slice A0_0 l0_0.length c0_0):=(kC BK212.out 0).trans rfl;have hcz13_1 : w12.cell? ⟨gb212,1,none⟩ = some (.slice A0_1 l0_1.length c0_1):=(kC BK212.out 1).trans rfl;have hcz13_2 : w12.cell? ⟨gb212,2,none⟩ = some (.int .i64 a0_2):=(kC BK212.out 2).trans rfl;have hcz13_3 : w12.cell? ⟨gb212,3,none⟩ = some (.int .i64 a0_3):=(kC BK212.out 3).trans rfl;have hcz13_4 : w12.cell? ⟨gb212,4,none⟩ = some (.int .i64 a0_4):=(kC BK212.out 4).trans rfl;have hfz13_0:=kF BK212.out 0;have hfz13_1:=kF BK212.out 1;have hfz13_2:=kF BK212.out 2;have hfz13_3:=kF BK212.out 3;have hfz13_4:=kF BK212.out 4)|((with_reducible refine gate_callee (f:=17) rfl ?_);refine goesL_ (some 6) rfl rfl Try.func17 (by kernel_rfl) rfl #[.agg #[.slice A0_0 l0_0.length c0_0,.slice A0_1 l0_1.length c0_1,.int .i64 a0_2,.int .i64 a0_3,.int .i64 a0_4]] rfl (by (try simp only [List.map_toArray,List.map_cons,List.map_nil]);first|done|rfl|(simp only [List.length_drop,List.length_take];rfl)) ?_;(with_reducible refine (impl_ProfileOk.calls _ _ l0_0 _ _ l0_1 a0_2 a0_3 a0_4 t213 _ ?side1 ?side2 ?side3 ?side4 A3.out).mono ?_);(case side1 => repeat (first|exact (Kd.C_below HR0_0.out HB.out)|(with_reducible refine Kd.C_alloc ?_ _)|(with_reducible refine Kd.C_drewN ?_ _)|(with_reducible refine Kd.C_drew ?_)));(case side2 => exact HC0_0.out);(case side3 => repeat (first|exact (Kd.C_below HR0_1.out HB.out)|(with_reducible refine Kd.C_alloc ?_ _)|(with_reducible refine Kd.C_drewN ?_ _)|(with_reducible refine Kd.C_drew ?_)));(case side4 => exact HC0_1.out);rintro e w14 ⟨rfl,hb⟩;refine ⟨_,rfl,?_⟩;have n0_:=Am (blk_below (g:=gb212) (o:=.cells #[.slice A0_0 l0_0.length c0_0,.slice A0_1 l0_1.length c0_1,.int .i64 a0_2,.int .i64 a0_3,.int .i64 a0_4] 31 (0,0)) (by (with_reducible repeat (first|refine kN ?_ _|refine kD ?_|refine kA ?_ _));exact BK212.out) hb);have n1_:=Am (below_step (by repeat (first|(with_reducible first|exact HB.out|apply bA|apply bN|apply bD|refine bS ?_ GE212.out)|exact HB.out)) hb);clear BK212;clear HB;have BK212:=n0_;have HB:=n1_;clear n0_ n1_;(try clear hb);(try clear hb2);(try clear hk);(try clear hi)))
   go_ret
   exact ⟨by first|rfl|(simp [errW_none,errW_some] <;> rfl)|(simp [*,errW_none,errW_some] <;> rfl),by repeat (first|(with_reducible first|exact HB.out|apply bA|apply bN|apply bD|refine bS ?_ GE212.out)|exact HB.out)⟩
 ·rw [if_neg c4] at H
  have c4b0 : (t213 == 0) = false:=beq_eq_false_iff_ne.mpr c4
  have c4b1 : (t213 != 0) = true:=bne_iff_ne.mpr c4
  obtain rfl:=Option.some.inj H
  go_enter Try.func68,Try.ntmps68
  go_wp2_with (first|((with_reducible refine gate_dst (N:=2) rfl ?_);refine box_event ?hg (N:=2) ?hd (cs:=#[.slice A0_0 l0_0.length c0_0,.slice A0_1 l0_1.length c0_1,.int .i64 a0_2,.int .i64 a0_3,.int .i64 a0_4]) (t:=31) ?hr ?_;(case hd => rfl);(case hg => rfl);(case hr => first|(go_simp;done)|(go_simp;rfl));intro gb212 hg w15 hbox hb;have n0_:=Am (below_step (by repeat (first|(with_reducible first|exact HB.out|apply bA|apply bN|apply bD)|exact HB.out)) hb);have n1_:=Am (hbox);have n2_:=Am ((by rw [hg];exact (below_size (by repeat (first|(with_reducible first|exact HB.out|apply bA|apply bN|apply bD)|exact HB.out))) : w.heap.size ≤ gb212));have n3_:=Am ((by rw [hg];exact (below_size (by repeat (first|(with_reducible first|exact HB.out|apply bA|apply bN|apply bD)|exact HB.out))) : w.heap.size ≤ gb212));clear HB;have HB:=n0_;have BK212:=n1_;have GW212:=n2_;have GE212:=n3_;clear n0_ n1_ n2_ n3_;clear hb hbox hg;have hcz16_0 : w15.cell? ⟨gb212,0,none⟩ = some (.slice A0_0 l0_0.length c0_0):=(kC BK212.out 0).trans rfl;have hcz16_1 : w15.cell? ⟨gb212,1,none⟩ = some (.slice A0_1 l0_1.length c0_1):=(kC BK212.out 1).trans rfl;have hcz16_2 : w15.cell? ⟨gb212,2,none⟩ = some (.int .i64 a0_2):=(kC BK212.out 2).trans rfl;have hcz16_3 : w15.cell? ⟨gb212,3,none⟩ = some (.int .i64 a0_3):=(kC BK212.out 3).trans rfl;have hcz16_4 : w15.cell? ⟨gb212,4,none⟩ = some (.int .i64 a0_4):=(kC BK212.out 4).trans rfl;have hfz16_0:=kF BK212.out 0;have hfz16_1:=kF BK212.out 1;have hfz16_2:=kF BK212.out 2;have hfz16_3:=kF BK212.out 3;have hfz16_4:=kF BK212.out 4)|((with_reducible refine gate_callee (f:=17) rfl ?_);refine goesL_ (some 6) rfl rfl Try.func17 (by kernel_rfl) rfl #[.agg #[.slice A0_0 l0_0.length c0_0,.slice A0_1 l0_1.length c0_1,.int .i64 a0_2,.int .i64 a0_3,.int .i64 a0_4]] rfl (by (try simp only [List.map_toArray,List.map_cons,List.map_nil]);first|done|rfl|(simp only [List.length_drop,List.length_take];rfl)) ?_;(with_reducible refine (impl_ProfileOk.calls _ _ l0_0 _ _ l0_1 a0_2 a0_3 a0_4 t213 _ ?side1 ?side2 ?side3 ?side4 A3.out).mono ?_);(case side1 => repeat (first|exact (Kd.C_below HR0_0.out HB.out)|(with_reducible refine Kd.C_alloc ?_ _)|(with_reducible refine Kd.C_drewN ?_ _)|(with_reducible refine Kd.C_drew ?_)));(case side2 => exact HC0_0.out);(case side3 => repeat (first|exact (Kd.C_below HR0_1.out HB.out)|(with_reducible refine Kd.C_alloc ?_ _)|(with_reducible refine Kd.C_drewN ?_ _)|(with_reducible refine Kd.C_drew ?_)));(case side4 => exact HC0_1.out);rintro e w17 ⟨rfl,hb⟩;refine ⟨_,rfl,?_⟩;have n0_:=Am (blk_below (g:=gb212) (o:=.cells #[.slice A0_0 l0_0.length c0_0,.slice A0_1 l0_1.length c0_1,.int .i64 a0_2,.int .i64 a0_3,.int .i64 a0_4] 31 (0,0)) (by (with_reducible repeat (first|refine kN ?_ _|refine kD ?_|refine kA ?_ _));exact BK212.out) hb);have n1_:=Am (below_step (by repeat (first|(with_reducible first|exact HB.out|apply bA|apply bN|apply bD|refine bS ?_ GE212.out)|exact HB.out)) hb);clear BK212;clear HB;have BK212:=n0_;have HB:=n1_;clear n0_ n1_;(try clear hb);(try clear hb2);(try clear hk);(try clear hi)))
  go_ret
  exact ⟨by first|rfl|(simp [errW_none,errW_some] <;> rfl)|(simp [*,errW_none,errW_some] <;> rfl),by repeat (first|(with_reducible first|exact HB.out|apply bA|apply bN|apply bD|refine bS ?_ GE212.out)|exact HB.out)⟩

end Go.Proofs.Ytgakkndbcilclaa.PA
