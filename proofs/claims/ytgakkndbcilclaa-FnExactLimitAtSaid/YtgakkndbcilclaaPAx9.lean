-- Written by a program of this session (wip/print/myprint.py) over the kit's print, with contracts of its own; not a text of print.sh's.
import Derived.Test.YtgakkndbcilclaaPAx0
import Derived.Test.YtgakkndbcilclaaPAx1
import Derived.Test.YtgakkndbcilclaaPAx3
import Derived.Test.YtgakkndbcilclaaPAx7
import Derived.Test.YtgakkndbcilclaaPAx8
namespace Go.Proofs.Ytgakkndbcilclaa.PA
open Go.RowKit Go.Proofs.YtgakkndbcilclaaW.PrintWords Go.Proofs.YtgakkndbcilclaaW.PrintLast Go.Proofs.YtgakkndbcilclaaW.PrintMore
attribute [local go_sem] max2_int min2_int max_two min_two   -- for this text's walks alone
set_option linter.unusedVariables false
set_option linter.unusedSimpArgs false

/-! ### impl_touched: function 69 -/
def impl_touched.l0 : Nat → Int → Int → Int → List (S75) → Int → Int → List (S71) → List (S75) → Int → Int → Int → Option (Int)
 | 0,_,_,_,_,_,_,_,_,_,_,_ => none
 | k + 1,x1,x2,x7,x11,x12,x13,x216000,x216001,x216002,x216003,x216004 => if x13 < x12 then (if 0 ≤ x13 then (if x13 < (x11.length : Int) then (if ((rd_T75 x11 x13).f0) ≤ x2 then (if (wrap64 (((rd_T75 x11 x13).f1) + x216002)) ≥ x1 then (impl_touched.l0 k x1 x2 (mn x7 ((rd_T75 x11 x13).f2)) x11 x12 (wrap64 (x13 + 1)) x216000 x216001 x216002 x216003 x216004) else (impl_touched.l0 k x1 x2 x7 x11 x12 (wrap64 (x13 + 1)) x216000 x216001 x216002 x216003 x216004)) else (impl_touched.l0 k x1 x2 x7 x11 x12 (wrap64 (x13 + 1)) x216000 x216001 x216002 x216003 x216004)) else (none)) else (none)) else (some x7)
def impl_touched.f (k : Nat) (l0_0 : List (S71)) (l0_1 : List (S75)) (a0_2 : Int) (a0_3 : Int) (a0_4 : Int) (a1 : Int) (a2 : Int) : Option (Int):=impl_touched.l0 k a1 a2 10000 l0_1 (l0_1.length : Int) 0 l0_0 l0_1 a0_2 a0_3 a0_4
theorem impl_touched.mono_l : ∀ k,(∀ y0 y1 y2 y3 y4 y5 y6 y7 y8 y9 y10,LeO (impl_touched.l0 k y0 y1 y2 y3 y4 y5 y6 y7 y8 y9 y10) (impl_touched.l0 (k + 1) y0 y1 y2 y3 y4 y5 y6 y7 y8 y9 y10))
 | 0 => fun _ _ _ _ _ _ _ _ _ _ _ r h => by simp [impl_touched.l0] at h
 | k + 1 => by
  have ih0:=impl_touched.mono_l k
  ·intro y0 y1 y2 y3 y4 y5 y6 y7 y8 y9 y10
   unfold impl_touched.l0
   repeat' first
   | (with_reducible exact ih0 _ _ _ _ _ _ _ _ _ _ _)
   | (with_reducible exact LeO.refl _)
   | (with_reducible exact LeO.none _)
   | (with_reducible refine LeO.ite ?_ ?_)
   | (with_reducible refine LeO.bind ?_ (fun _ => ?_))
   | exact ih0 _ _ _ _ _ _ _ _ _ _ _
   | exact LeO.none _
   | refine LeO.ite ?_ ?_
   | refine LeO.bind ?_ (fun _ => ?_)
theorem impl_touched.mono : ∀ a0 a1 a2 a3 a4 a5 a6 k,LeO (impl_touched.f k a0 a1 a2 a3 a4 a5 a6) (impl_touched.f (k + 1) a0 a1 a2 a3 a4 a5 a6):=by
 intro a0 a1 a2 a3 a4 a5 a6 k
 have ih0:=impl_touched.mono_l k
 unfold impl_touched.f
 repeat' first
   | (with_reducible exact ih0 _ _ _ _ _ _ _ _ _ _ _)
   | (with_reducible exact LeO.refl _)
   | (with_reducible exact LeO.none _)
   | (with_reducible refine LeO.ite ?_ ?_)
   | (with_reducible refine LeO.bind ?_ (fun _ => ?_))
   | exact ih0 _ _ _ _ _ _ _ _ _ _ _
   | exact LeO.none _
   | refine LeO.ite ?_ ?_
   | refine LeO.bind ?_ (fun _ => ?_)
set_option maxHeartbeats 8000000 in
set_option maxRecDepth 100000 in
theorem impl_touched.calls (k : Nat) (A0_0 : Option Addr) (c0_0 : Nat) (l0_0 : List (S71)) (A0_1 : Option Addr) (c0_1 : Nat) (l0_1 : List (S75)) (a0_2 : Int) (a0_3 : Int) (a0_4 : Int) (a1 : Int) (a2 : Int) (r : Int) (w : World) (hr0_0 : Kd.C k71 w A0_0 l0_0.length l0_0) (hc0_0 : l0_0.length ≤ c0_0) (hr0_1 : Kd.C k75 w A0_1 l0_1.length l0_1) (hc0_1 : l0_1.length ≤ c0_1) (h : impl_touched.f k l0_0 l0_1 a0_2 a0_3 a0_4 a1 a2 = some r) :
  Calls Try.prog 69 #[.agg #[.slice A0_0 l0_0.length c0_0,.slice A0_1 l0_1.length c0_1,.int .i64 a0_2,.int .i64 a0_3,.int .i64 a0_4],.int .i64 a1,.int .i64 a2] w fun e w' => e = .returned (.int .i64 r)∧Below w.heap.size w w':=by
 have hu31:=Try.underlying31
 have hu75:=Try.underlying75
 have HR0_0:=Am hr0_0
 have HC0_0:=Am hc0_0
 clear hr0_0 hc0_0
 have HR0_1:=Am hr0_1
 have HC0_1:=Am hc0_1
 clear hr0_1 hc0_1
 have HB:=Am (Below.refl w.heap.size w)
 have H : (impl_touched.l0 k a1 a2 10000 l0_1 (l0_1.length : Int) 0 l0_0 l0_1 a0_2 a0_3 a0_4) = some r:=h
 clear h
 have H':=Am H
 clear H
 go_enter Try.func69,Try.ntmps69
 go_wp2_with (first|((with_reducible refine gate_dst (N:=3) rfl ?_);refine box_event ?hg (N:=3) ?hd (cs:=#[.slice A0_0 l0_0.length c0_0,.slice A0_1 l0_1.length c0_1,.int .i64 a0_2,.int .i64 a0_3,.int .i64 a0_4]) (t:=31) ?hr ?_;(case hd => rfl);(case hg => rfl);(case hr => first|(go_simp;done)|(go_simp;rfl));intro gb215 hg w4 hbox hb;have n0_:=Am (below_step (by repeat (first|(with_reducible first|exact HB.out|apply bA|apply bN|apply bD)|exact HB.out)) hb);have n1_:=Am (hbox);have n2_:=Am ((by rw [hg];exact (below_size (by repeat (first|(with_reducible first|exact HB.out|apply bA|apply bN|apply bD)|exact HB.out))) : w.heap.size ≤ gb215));have n3_:=Am ((by rw [hg];exact (below_size (by repeat (first|(with_reducible first|exact HB.out|apply bA|apply bN|apply bD)|exact HB.out))) : w.heap.size ≤ gb215));clear HB;have HB:=n0_;have BK215:=n1_;have GW215:=n2_;have GE215:=n3_;clear n0_ n1_ n2_ n3_;clear hb hbox hg;have hcz5_0 : w4.cell? ⟨gb215,0,none⟩ = some (.slice A0_0 l0_0.length c0_0):=(kC BK215.out 0).trans rfl;have hcz5_1 : w4.cell? ⟨gb215,1,none⟩ = some (.slice A0_1 l0_1.length c0_1):=(kC BK215.out 1).trans rfl;have hcz5_2 : w4.cell? ⟨gb215,2,none⟩ = some (.int .i64 a0_2):=(kC BK215.out 2).trans rfl;have hcz5_3 : w4.cell? ⟨gb215,3,none⟩ = some (.int .i64 a0_3):=(kC BK215.out 3).trans rfl;have hcz5_4 : w4.cell? ⟨gb215,4,none⟩ = some (.int .i64 a0_4):=(kC BK215.out 4).trans rfl;have hfz5_0:=kF BK215.out 0;have hfz5_1:=kF BK215.out 1;have hfz5_2:=kF BK215.out 2;have hfz5_3:=kF BK215.out 3;have hfz5_4:=kF BK215.out 4))
 go_loopg [7,13] k (fun kq v7 v13 w' => ∃ (x7_1 : Int) (x13_1 : Int),v7 = .int .i64 x7_1∧v13 = .int .i64 x13_1∧As (impl_touched.l0 kq a1 a2 x7_1 l0_1 (l0_1.length : Int) x13_1 l0_0 l0_1 a0_2 a0_3 a0_4 = some r)∧As (kq ≤ k)∧As (w'.heap[gb215]? = some (.cells #[(.slice A0_0 l0_0.length c0_0),(.slice A0_1 l0_1.length c0_1),.int .i64 a0_2,.int .i64 a0_3,.int .i64 a0_4] 31 (0,0)))∧As (Below w.heap.size w w'))
 case atStart => exact ⟨(10000),(0),(by first|rfl|(simp;done)|(simp [*];done)),(by first|rfl|(simp;done)|(simp [*];done)),H',⟨Nat.le_refl _⟩,⟨by (with_reducible repeat (first|refine kN ?_ _|refine kD ?_|refine kA ?_ _));exact BK215.out⟩,⟨by repeat (first|(with_reducible first|exact HB.out|apply bA|apply bN|apply bD|refine bS ?_ GE215.out)|exact HB.out)⟩⟩
 case round =>
  clear H'
  try clear p2
  try clear hcz5_0
  try clear hcz5_1
  try clear hcz5_2
  try clear hcz5_3
  try clear hcz5_4
  try clear hfz5_0
  try clear hfz5_1
  try clear hfz5_2
  try clear hfz5_3
  try clear hfz5_4
  obtain ⟨x7_1,x13_1,rfl,rfl,HA,HK1,BK215,HB⟩:=hrel
  cases gk with
  | zero => exact absurd HA.out (by simp [impl_touched.l0])
  | succ k1 =>
   have H:=HA.out
   clear HA
   simp only [impl_touched.l0] at H
   by_cases c6 : x13_1 < (l0_1.length : Int)
   ·rw [if_pos c6] at H
    have c6b0 : decide (x13_1 < (l0_1.length : Int)) = true:=decide_eq_true c6
    clear c6
    by_cases c7 : 0 ≤ x13_1
    ·rw [if_pos c7] at H
     have c7b0 : decide (0 ≤ x13_1) = true:=decide_eq_true c7
     clear c7
     by_cases c8 : x13_1 < (l0_1.length : Int)
     ·rw [if_pos c8] at H
      have c8b0 : decide (x13_1 < (l0_1.length : Int)) = true:=decide_eq_true c8
      clear c8
      by_cases c9 : ((rd_T75 l0_1 x13_1).f0) ≤ a2
      ·rw [if_pos c9] at H
       have c9b0 : decide (((rd_T75 l0_1 x13_1).f0) ≤ a2) = true:=decide_eq_true c9
       clear c9
       by_cases c10 : (wrap64 (((rd_T75 l0_1 x13_1).f1) + a0_2)) ≥ a1
       ·rw [if_pos c10] at H
        have c10b0 : decide (a1 ≤ (wrap64 (((rd_T75 l0_1 x13_1).f1) + a0_2))) = true:=decide_eq_true c10
        clear c10
        obtain ⟨ji11,hji11⟩ : ∃ j_ : Int,(mn x7_1 ((rd_T75 l0_1 x13_1).f2)) = j_:=⟨_,rfl⟩
        replace H : (impl_touched.l0 k1 a1 a2 ji11 l0_1 (l0_1.length : Int) (wrap64 (x13_1 + 1)) l0_0 l0_1 a0_2 a0_3 a0_4) = some r:=by first|(rw [hji11] at H;exact H)|(simp only [hji11] at H ⊢;exact H)
        have hji11_ : (if ((rd_T75 l0_1 x13_1).f2) < x7_1 then ((rd_T75 l0_1 x13_1).f2) else x7_1) = ji11:=hji11
        have H':=Am H
        clear H
        have p216 : 0 ≤ (x13_1 : Int):=of_decide_eq_true (by first|(with_reducible assumption)|assumption)
        have q216 : x13_1 < (l0_1.length : Int):=of_decide_eq_true (by first|(with_reducible assumption)|assumption)
        obtain ⟨ad216,e216,hx216_0,hx216_1,hx216_2⟩:=at_T75 HR0_1.out x13_1 p216 q216
        cases e216
        replace hx216_0:=(HB.out.cell (World.block_lt_of_cell? w _ hx216_0)).trans hx216_0
        replace hx216_1:=(HB.out.cell (World.block_lt_of_cell? w _ hx216_1)).trans hx216_1
        replace hx216_2:=(HB.out.cell (World.block_lt_of_cell? w _ hx216_2)).trans hx216_2
        replace p216:=eq_true p216
        replace q216:=eq_true q216
        go_wp2_with (first|((with_reducible refine gate_dst (N:=9) rfl ?_);refine box_event ?hg (N:=9) ?hd (cs:=#[.int .i64 0,.int .i64 0,.int .i64 0]) (t:=75) ?hr ?_;(case hd => rfl);(case hg => rfl);(case hr => first|(go_simp;done)|(go_simp;rfl));intro gb217 hg w12 hbox hb;have n0_:=Am (blk_below (g:=gb215) (o:=.cells #[.slice A0_0 l0_0.length c0_0,.slice (some ad216) l0_1.length c0_1,.int .i64 a0_2,.int .i64 a0_3,.int .i64 a0_4] 31 (0,0)) (by (with_reducible repeat (first|refine kN ?_ _|refine kD ?_|refine kA ?_ _));exact BK215.out) hb);have n1_:=Am (below_step (by repeat (first|(with_reducible first|exact HB.out|apply bA|apply bN|apply bD|refine bS ?_ GE215.out)|exact HB.out)) hb);have n2_:=Am (hbox);have n3_:=Am ((by rw [hg];exact (below_size (by repeat (first|(with_reducible first|exact HB.out|apply bA|apply bN|apply bD|refine bS ?_ GE215.out)|exact HB.out))) : w.heap.size ≤ gb217));have n4_:=Am ((by rw [hg];exact (below_size (by repeat (first|(with_reducible first|exact HB.out|apply bA|apply bN|apply bD|refine bS ?_ GE215.out)|exact HB.out))) : w.heap.size ≤ gb217));have n5_:=Am ((by rw [hg];exact Nat.ne_of_lt (blk_lt (g:=gb215) (o:=.cells #[.slice A0_0 l0_0.length c0_0,.slice (some ad216) l0_1.length c0_1,.int .i64 a0_2,.int .i64 a0_3,.int .i64 a0_4] 31 (0,0)) (by (with_reducible repeat (first|refine kN ?_ _|refine kD ?_|refine kA ?_ _));exact BK215.out)) : gb215 ≠ gb217));have n6_:=Am ((by rw [hg];exact Nat.ne_of_gt (blk_lt (g:=gb215) (o:=.cells #[.slice A0_0 l0_0.length c0_0,.slice (some ad216) l0_1.length c0_1,.int .i64 a0_2,.int .i64 a0_3,.int .i64 a0_4] 31 (0,0)) (by (with_reducible repeat (first|refine kN ?_ _|refine kD ?_|refine kA ?_ _));exact BK215.out)) : gb217 ≠ gb215));clear BK215;clear HB;have BK215:=n0_;have HB:=n1_;have BK217:=n2_;have GW217:=n3_;have GE217:=n4_;have NB215_217:=n5_;have NB217_215:=n6_;clear n0_ n1_ n2_ n3_ n4_ n5_ n6_;clear hb hbox hg;have hnb13:=NB217_215.out;have hnc13:=NB215_217.out;have hcz14_0 : w12.cell? ⟨gb217,0,none⟩ = some (.int .i64 0):=(kC BK217.out 0).trans rfl;have hcz14_1 : w12.cell? ⟨gb217,1,none⟩ = some (.int .i64 0):=(kC BK217.out 1).trans rfl;have hcz14_2 : w12.cell? ⟨gb217,2,none⟩ = some (.int .i64 0):=(kC BK217.out 2).trans rfl;have hfz14_0:=kF BK217.out 0;have hfz14_1:=kF BK217.out 1;have hfz14_2:=kF BK217.out 2;have hcz15_0 : w12.cell? ⟨gb215,0,none⟩ = some (.slice A0_0 l0_0.length c0_0):=(kC BK215.out 0).trans rfl;have hcz15_1 : w12.cell? ⟨gb215,1,none⟩ = some (.slice (some ad216) l0_1.length c0_1):=(kC BK215.out 1).trans rfl;have hcz15_2 : w12.cell? ⟨gb215,2,none⟩ = some (.int .i64 a0_2):=(kC BK215.out 2).trans rfl;have hcz15_3 : w12.cell? ⟨gb215,3,none⟩ = some (.int .i64 a0_3):=(kC BK215.out 3).trans rfl;have hcz15_4 : w12.cell? ⟨gb215,4,none⟩ = some (.int .i64 a0_4):=(kC BK215.out 4).trans rfl;have hfz15_0:=kF BK215.out 0;have hfz15_1:=kF BK215.out 1;have hfz15_2:=kF BK215.out 2;have hfz15_3:=kF BK215.out 3;have hfz15_4:=kF BK215.out 4))
        go_roundg k1
        case measure => have:=HK1.out;omega
        case rel => exact ⟨(ji11),(wrap64 (x13_1 + 1)),(by first|rfl|(simp;done)|(simp only [← hji11] <;> (first|rfl|simp))|(simp [*];done)),(by first|rfl|(simp;done)|(simp [*];done)),H',⟨by have:=HK1.out;omega⟩,⟨by (with_reducible repeat (first|refine kN ?_ _|refine kD ?_|refine kA ?_ _));refine blk_far ?_ NB215_217.out _;(with_reducible repeat (first|refine kN ?_ _|refine kD ?_|refine kA ?_ _));refine blk_far ?_ NB215_217.out _;(with_reducible repeat (first|refine kN ?_ _|refine kD ?_|refine kA ?_ _));refine blk_far ?_ NB215_217.out _;(with_reducible repeat (first|refine kN ?_ _|refine kD ?_|refine kA ?_ _));exact BK215.out⟩,⟨by repeat (first|(with_reducible first|exact HB.out|apply bA|apply bN|apply bD|refine bS ?_ GE215.out|refine bS ?_ GE217.out)|exact HB.out)⟩⟩
       ·rw [if_neg c10] at H
        have c10b0 : decide (a1 ≤ (wrap64 (((rd_T75 l0_1 x13_1).f1) + a0_2))) = false:=decide_eq_false c10
        clear c10
        have H':=Am H
        clear H
        have p216 : 0 ≤ (x13_1 : Int):=of_decide_eq_true (by first|(with_reducible assumption)|assumption)
        have q216 : x13_1 < (l0_1.length : Int):=of_decide_eq_true (by first|(with_reducible assumption)|assumption)
        obtain ⟨ad216,e216,hx216_0,hx216_1,hx216_2⟩:=at_T75 HR0_1.out x13_1 p216 q216
        cases e216
        replace hx216_0:=(HB.out.cell (World.block_lt_of_cell? w _ hx216_0)).trans hx216_0
        replace hx216_1:=(HB.out.cell (World.block_lt_of_cell? w _ hx216_1)).trans hx216_1
        replace hx216_2:=(HB.out.cell (World.block_lt_of_cell? w _ hx216_2)).trans hx216_2
        replace p216:=eq_true p216
        replace q216:=eq_true q216
        go_wp2_with (first|((with_reducible refine gate_dst (N:=9) rfl ?_);refine box_event ?hg (N:=9) ?hd (cs:=#[.int .i64 0,.int .i64 0,.int .i64 0]) (t:=75) ?hr ?_;(case hd => rfl);(case hg => rfl);(case hr => first|(go_simp;done)|(go_simp;rfl));intro gb217 hg w16 hbox hb;have n0_:=Am (blk_below (g:=gb215) (o:=.cells #[.slice A0_0 l0_0.length c0_0,.slice (some ad216) l0_1.length c0_1,.int .i64 a0_2,.int .i64 a0_3,.int .i64 a0_4] 31 (0,0)) (by (with_reducible repeat (first|refine kN ?_ _|refine kD ?_|refine kA ?_ _));exact BK215.out) hb);have n1_:=Am (below_step (by repeat (first|(with_reducible first|exact HB.out|apply bA|apply bN|apply bD|refine bS ?_ GE215.out)|exact HB.out)) hb);have n2_:=Am (hbox);have n3_:=Am ((by rw [hg];exact (below_size (by repeat (first|(with_reducible first|exact HB.out|apply bA|apply bN|apply bD|refine bS ?_ GE215.out)|exact HB.out))) : w.heap.size ≤ gb217));have n4_:=Am ((by rw [hg];exact (below_size (by repeat (first|(with_reducible first|exact HB.out|apply bA|apply bN|apply bD|refine bS ?_ GE215.out)|exact HB.out))) : w.heap.size ≤ gb217));have n5_:=Am ((by rw [hg];exact Nat.ne_of_lt (blk_lt (g:=gb215) (o:=.cells #[.slice A0_0 l0_0.length c0_0,.slice (some ad216) l0_1.length c0_1,.int .i64 a0_2,.int .i64 a0_3,.int .i64 a0_4] 31 (0,0)) (by (with_reducible repeat (first|refine kN ?_ _|refine kD ?_|refine kA ?_ _));exact BK215.out)) : gb215 ≠ gb217));have n6_:=Am ((by rw [hg];exact Nat.ne_of_gt (blk_lt (g:=gb215) (o:=.cells #[.slice A0_0 l0_0.length c0_0,.slice (some ad216) l0_1.length c0_1,.int .i64 a0_2,.int .i64 a0_3,.int .i64 a0_4] 31 (0,0)) (by (with_reducible repeat (first|refine kN ?_ _|refine kD ?_|refine kA ?_ _));exact BK215.out)) : gb217 ≠ gb215));clear BK215;clear HB;have BK215:=n0_;have HB:=n1_;have BK217:=n2_;have GW217:=n3_;have GE217:=n4_;have NB215_217:=n5_;have NB217_215:=n6_;clear n0_ n1_ n2_ n3_ n4_ n5_ n6_;clear hb hbox hg;have hnb17:=NB217_215.out;have hnc17:=NB215_217.out;have hcz18_0 : w16.cell? ⟨gb217,0,none⟩ = some (.int .i64 0):=(kC BK217.out 0).trans rfl;have hcz18_1 : w16.cell? ⟨gb217,1,none⟩ = some (.int .i64 0):=(kC BK217.out 1).trans rfl;have hcz18_2 : w16.cell? ⟨gb217,2,none⟩ = some (.int .i64 0):=(kC BK217.out 2).trans rfl;have hfz18_0:=kF BK217.out 0;have hfz18_1:=kF BK217.out 1;have hfz18_2:=kF BK217.out 2;have hcz19_0 : w16.cell? ⟨gb215,0,none⟩ = some (.slice A0_0 l0_0.length c0_0):=(kC BK215.out 0).trans rfl;have hcz19_1 : w16.cell? ⟨gb215,1,none⟩ = some (.slice (some ad216) l0_1.length c0_1):=(kC BK215.out 1).trans rfl;have hcz19_2 : w16.cell? ⟨gb215,2,none⟩ = some (.int .i64 a0_2):=(kC BK215.out 2).trans rfl;have hcz19_3 : w16.cell? ⟨gb215,3,none⟩ = some (.int .i64 a0_3):=(kC BK215.out 3).trans rfl;have hcz19_4 : w16.cell? ⟨gb215,4,none⟩ = some (.int .i64 a0_4):=(kC BK215.out 4).trans rfl;have hfz19_0:=kF BK215.out 0;have hfz19_1:=kF BK215.out 1;have hfz19_2:=kF BK215.out 2;have hfz19_3:=kF BK215.out 3;have hfz19_4:=kF BK215.out 4))
        go_roundg k1
        case measure => have:=HK1.out;omega
        case rel => exact ⟨(x7_1),(wrap64 (x13_1 + 1)),(by first|rfl|(simp;done)|(simp [*];done)),(by first|rfl|(simp;done)|(simp [*];done)),H',⟨by have:=HK1.out;omega⟩,⟨by (with_reducible repeat (first|refine kN ?_ _|refine kD ?_|refine kA ?_ _));refine blk_far ?_ NB215_217.out _;(with_reducible repeat (first|refine kN ?_ _|refine kD ?_|refine kA ?_ _));refine blk_far ?_ NB215_217.out _;(with_reducible repeat (first|refine kN ?_ _|refine kD ?_|refine kA ?_ _));refine blk_far ?_ NB215_217.out _;(with_reducible repeat (first|refine kN ?_ _|refine kD ?_|refine kA ?_ _));exact BK215.out⟩,⟨by repeat (first|(with_reducible first|exact HB.out|apply bA|apply bN|apply bD|refine bS ?_ GE215.out|refine bS ?_ GE217.out)|exact HB.out)⟩⟩
      ·rw [if_neg c9] at H
       have c9b0 : decide (((rd_T75 l0_1 x13_1).f0) ≤ a2) = false:=decide_eq_false c9
       clear c9
       have H':=Am H
       clear H
       have p216 : 0 ≤ (x13_1 : Int):=of_decide_eq_true (by first|(with_reducible assumption)|assumption)
       have q216 : x13_1 < (l0_1.length : Int):=of_decide_eq_true (by first|(with_reducible assumption)|assumption)
       obtain ⟨ad216,e216,hx216_0,hx216_1,hx216_2⟩:=at_T75 HR0_1.out x13_1 p216 q216
       cases e216
       replace hx216_0:=(HB.out.cell (World.block_lt_of_cell? w _ hx216_0)).trans hx216_0
       replace hx216_1:=(HB.out.cell (World.block_lt_of_cell? w _ hx216_1)).trans hx216_1
       replace hx216_2:=(HB.out.cell (World.block_lt_of_cell? w _ hx216_2)).trans hx216_2
       replace p216:=eq_true p216
       replace q216:=eq_true q216
       go_wp2_with (first|((with_reducible refine gate_dst (N:=9) rfl ?_);refine box_event ?hg (N:=9) ?hd (cs:=#[.int .i64 0,.int .i64 0,.int .i64 0]) (t:=75) ?hr ?_;(case hd => rfl);(case hg => rfl);(case hr => first|(go_simp;done)|(go_simp;rfl));intro gb217 hg w20 hbox hb;have n0_:=Am (blk_below (g:=gb215) (o:=.cells #[.slice A0_0 l0_0.length c0_0,.slice (some ad216) l0_1.length c0_1,.int .i64 a0_2,.int .i64 a0_3,.int .i64 a0_4] 31 (0,0)) (by (with_reducible repeat (first|refine kN ?_ _|refine kD ?_|refine kA ?_ _));exact BK215.out) hb);have n1_:=Am (below_step (by repeat (first|(with_reducible first|exact HB.out|apply bA|apply bN|apply bD|refine bS ?_ GE215.out)|exact HB.out)) hb);have n2_:=Am (hbox);have n3_:=Am ((by rw [hg];exact (below_size (by repeat (first|(with_reducible first|exact HB.out|apply bA|apply bN|apply bD|refine bS ?_ GE215.out)|exact HB.out))) : w.heap.size ≤ gb217));have n4_:=Am ((by rw [hg];exact (below_size (by repeat (first|(with_reducible first|exact HB.out|apply bA|apply bN|apply bD|refine bS ?_ GE215.out)|exact HB.out))) : w.heap.size ≤ gb217));have n5_:=Am ((by rw [hg];exact Nat.ne_of_lt (blk_lt (g:=gb215) (o:=.cells #[.slice A0_0 l0_0.length c0_0,.slice (some ad216) l0_1.length c0_1,.int .i64 a0_2,.int .i64 a0_3,.int .i64 a0_4] 31 (0,0)) (by (with_reducible repeat (first|refine kN ?_ _|refine kD ?_|refine kA ?_ _));exact BK215.out)) : gb215 ≠ gb217));have n6_:=Am ((by rw [hg];exact Nat.ne_of_gt (blk_lt (g:=gb215) (o:=.cells #[.slice A0_0 l0_0.length c0_0,.slice (some ad216) l0_1.length c0_1,.int .i64 a0_2,.int .i64 a0_3,.int .i64 a0_4] 31 (0,0)) (by (with_reducible repeat (first|refine kN ?_ _|refine kD ?_|refine kA ?_ _));exact BK215.out)) : gb217 ≠ gb215));clear BK215;clear HB;have BK215:=n0_;have HB:=n1_;have BK217:=n2_;have GW217:=n3_;have GE217:=n4_;have NB215_217:=n5_;have NB217_215:=n6_;clear n0_ n1_ n2_ n3_ n4_ n5_ n6_;clear hb hbox hg;have hnb21:=NB217_215.out;have hnc21:=NB215_217.out;have hcz22_0 : w20.cell? ⟨gb217,0,none⟩ = some (.int .i64 0):=(kC BK217.out 0).trans rfl;have hcz22_1 : w20.cell? ⟨gb217,1,none⟩ = some (.int .i64 0):=(kC BK217.out 1).trans rfl;have hcz22_2 : w20.cell? ⟨gb217,2,none⟩ = some (.int .i64 0):=(kC BK217.out 2).trans rfl;have hfz22_0:=kF BK217.out 0;have hfz22_1:=kF BK217.out 1;have hfz22_2:=kF BK217.out 2))
       go_roundg k1
       case measure => have:=HK1.out;omega
       case rel => exact ⟨(x7_1),(wrap64 (x13_1 + 1)),(by first|rfl|(simp;done)|(simp [*];done)),(by first|rfl|(simp;done)|(simp [*];done)),H',⟨by have:=HK1.out;omega⟩,⟨by (with_reducible repeat (first|refine kN ?_ _|refine kD ?_|refine kA ?_ _));refine blk_far ?_ NB215_217.out _;(with_reducible repeat (first|refine kN ?_ _|refine kD ?_|refine kA ?_ _));refine blk_far ?_ NB215_217.out _;(with_reducible repeat (first|refine kN ?_ _|refine kD ?_|refine kA ?_ _));refine blk_far ?_ NB215_217.out _;(with_reducible repeat (first|refine kN ?_ _|refine kD ?_|refine kA ?_ _));exact BK215.out⟩,⟨by repeat (first|(with_reducible first|exact HB.out|apply bA|apply bN|apply bD|refine bS ?_ GE215.out|refine bS ?_ GE217.out)|exact HB.out)⟩⟩
     ·rw [if_neg c8] at H
      exact absurd H (by simp)
    ·rw [if_neg c7] at H
     exact absurd H (by simp)
   ·rw [if_neg c6] at H
    have c6b0 : decide (x13_1 < (l0_1.length : Int)) = false:=decide_eq_false c6
    clear c6
    obtain rfl:=Option.some.inj H
    go_wp2
    go_ret
    exact ⟨by first|rfl|(simp [errW_none,errW_some] <;> rfl)|(simp [*,errW_none,errW_some] <;> rfl),by repeat (first|(with_reducible first|exact HB.out|apply bA|apply bN|apply bD|refine bS ?_ GE215.out)|exact HB.out)⟩

/-! ### impl_LimitAt: function 20 -/
def impl_LimitAt.f (k : Nat) (l0_0 : List (S71)) (l0_1 : List (S75)) (a0_2 : Int) (a0_3 : Int) (a0_4 : Int) (a1 : Int) : Option (Int):=(impl_right.f k l0_0 l0_1 a0_2 a0_3 a0_4 a1).bind fun t219 => (if t219 = true then ((impl_touched.f k l0_0 l0_1 a0_2 a0_3 a0_4 a1 a1).bind fun t220 => (some t220)) else (some (-1)))
theorem impl_LimitAt.mono : ∀ a0 a1 a2 a3 a4 a5 k,LeO (impl_LimitAt.f k a0 a1 a2 a3 a4 a5) (impl_LimitAt.f (k + 1) a0 a1 a2 a3 a4 a5):=by
 intro a0 a1 a2 a3 a4 a5 k
 unfold impl_LimitAt.f
 repeat' first
   | (with_reducible exact impl_right.mono _ _ _ _ _ _ _)
   | (with_reducible exact impl_touched.mono _ _ _ _ _ _ _ _)
   | (with_reducible exact LeO.refl _)
   | (with_reducible exact LeO.none _)
   | (with_reducible refine LeO.ite ?_ ?_)
   | (with_reducible refine LeO.bind ?_ (fun _ => ?_))
   | exact impl_right.mono _ _ _ _ _ _ _
   | exact impl_touched.mono _ _ _ _ _ _ _ _
   | exact LeO.none _
   | refine LeO.ite ?_ ?_
   | refine LeO.bind ?_ (fun _ => ?_)
set_option maxHeartbeats 8000000 in
set_option maxRecDepth 100000 in
theorem impl_LimitAt.calls (k : Nat) (A0_0 : Option Addr) (c0_0 : Nat) (l0_0 : List (S71)) (A0_1 : Option Addr) (c0_1 : Nat) (l0_1 : List (S75)) (a0_2 : Int) (a0_3 : Int) (a0_4 : Int) (a1 : Int) (r : Int) (w : World) (hr0_0 : Kd.C k71 w A0_0 l0_0.length l0_0) (hc0_0 : l0_0.length ≤ c0_0) (hr0_1 : Kd.C k75 w A0_1 l0_1.length l0_1) (hc0_1 : l0_1.length ≤ c0_1) (h : impl_LimitAt.f k l0_0 l0_1 a0_2 a0_3 a0_4 a1 = some r) :
  Calls Try.prog 20 #[.agg #[.slice A0_0 l0_0.length c0_0,.slice A0_1 l0_1.length c0_1,.int .i64 a0_2,.int .i64 a0_3,.int .i64 a0_4],.int .i64 a1] w fun e w' => e = .returned (.int .i64 r)∧Below w.heap.size w w':=by
 have hu31:=Try.underlying31
 have HR0_0:=Am hr0_0
 have HC0_0:=Am hc0_0
 clear hr0_0 hc0_0
 have HR0_1:=Am hr0_1
 have HC0_1:=Am hc0_1
 clear hr0_1 hc0_1
 have HB:=Am (Below.refl w.heap.size w)
 have H : ((impl_right.f k l0_0 l0_1 a0_2 a0_3 a0_4 a1).bind fun t219 => (if t219 = true then ((impl_touched.f k l0_0 l0_1 a0_2 a0_3 a0_4 a1 a1).bind fun t220 => (some t220)) else (some (-1)))) = some r:=h
 clear h
 replace H:=Option.bind_eq_some_iff.mp H
 obtain ⟨t219,A30,H⟩:=H
 replace H : (if t219 = true then ((impl_touched.f k l0_0 l0_1 a0_2 a0_3 a0_4 a1 a1).bind fun t220 => (some t220)) else (some (-1))) = some r:=H
 have A3:=Am A30
 clear A30
 by_cases c4 : t219 = true
 ·subst c4
  have H1 : ((impl_touched.f k l0_0 l0_1 a0_2 a0_3 a0_4 a1 a1).bind fun t220 => (some t220)) = some r:=by rw [if_pos rfl] at H;exact H
  clear H
  have H:=H1
  clear H1
  replace H:=Option.bind_eq_some_iff.mp H
  obtain ⟨t220,A50,H⟩:=H
  replace H : (some t220) = some r:=H
  have A5:=Am A50
  clear A50
  obtain rfl:=Option.some.inj H
  go_enter Try.func20,Try.ntmps20
  go_wp2_with (first|((with_reducible refine gate_dst (N:=2) rfl ?_);refine box_event ?hg (N:=2) ?hd (cs:=#[.slice A0_0 l0_0.length c0_0,.slice A0_1 l0_1.length c0_1,.int .i64 a0_2,.int .i64 a0_3,.int .i64 a0_4]) (t:=31) ?hr ?_;(case hd => rfl);(case hg => rfl);(case hr => first|(go_simp;done)|(go_simp;rfl));intro gb218 hg w6 hbox hb;have n0_:=Am (below_step (by repeat (first|(with_reducible first|exact HB.out|apply bA|apply bN|apply bD)|exact HB.out)) hb);have n1_:=Am (hbox);have n2_:=Am ((by rw [hg];exact (below_size (by repeat (first|(with_reducible first|exact HB.out|apply bA|apply bN|apply bD)|exact HB.out))) : w.heap.size ≤ gb218));have n3_:=Am ((by rw [hg];exact (below_size (by repeat (first|(with_reducible first|exact HB.out|apply bA|apply bN|apply bD)|exact HB.out))) : w.heap.size ≤ gb218));clear HB;have HB:=n0_;have BK218:=n1_;have GW218:=n2_;have GE218:=n3_;clear n0_ n1_ n2_ n3_;clear hb hbox hg;have hcz7_0 : w6.cell? ⟨gb218,0,none⟩ = some (.slice A0_0 l0_0.length c0_0):=(kC BK218.out 0).trans rfl;have hcz7_1 : w6.cell? ⟨gb218,1,none⟩ = some (.slice A0_1 l0_1.length c0_1):=(kC BK218.out 1).trans rfl;have hcz7_2 : w6.cell? ⟨gb218,2,none⟩ = some (.int .i64 a0_2):=(kC BK218.out 2).trans rfl;have hcz7_3 : w6.cell? ⟨gb218,3,none⟩ = some (.int .i64 a0_3):=(kC BK218.out 3).trans rfl;have hcz7_4 : w6.cell? ⟨gb218,4,none⟩ = some (.int .i64 a0_4):=(kC BK218.out 4).trans rfl;have hfz7_0:=kF BK218.out 0;have hfz7_1:=kF BK218.out 1;have hfz7_2:=kF BK218.out 2;have hfz7_3:=kF BK218.out 3;have hfz7_4:=kF BK218.out 4)|((with_reducible refine gate_callee (f:=68) rfl ?_);refine goesL_ (some 7) rfl rfl Try.func68 (by kernel_rfl) rfl #[.agg #[.slice A0_0 l0_0.length c0_0,.slice A0_1 l0_1.length c0_1,.int .i64 a0_2,.int .i64 a0_3,.int .i64 a0_4],.int .i64 a1] rfl (by (try simp only [List.map_toArray,List.map_cons,List.map_nil]);first|done|rfl|(simp only [List.length_drop,List.length_take];rfl)) ?_;(with_reducible refine (impl_right.calls k _ _ l0_0 _ _ l0_1 a0_2 a0_3 a0_4 a1 true _ ?side1 ?side2 ?side3 ?side4 A3.out).mono ?_);(case side1 => repeat (first|exact (Kd.C_below HR0_0.out HB.out)|(with_reducible refine Kd.C_alloc ?_ _)|(with_reducible refine Kd.C_drewN ?_ _)|(with_reducible refine Kd.C_drew ?_)));(case side2 => exact HC0_0.out);(case side3 => repeat (first|exact (Kd.C_below HR0_1.out HB.out)|(with_reducible refine Kd.C_alloc ?_ _)|(with_reducible refine Kd.C_drewN ?_ _)|(with_reducible refine Kd.C_drew ?_)));(case side4 => exact HC0_1.out);rintro e w8 ⟨rfl,hb⟩;refine ⟨_,rfl,?_⟩;have n0_:=Am (blk_below (g:=gb218) (o:=.cells #[.slice A0_0 l0_0.length c0_0,.slice A0_1 l0_1.length c0_1,.int .i64 a0_2,.int .i64 a0_3,.int .i64 a0_4] 31 (0,0)) (by (with_reducible repeat (first|refine kN ?_ _|refine kD ?_|refine kA ?_ _));exact BK218.out) hb);have n1_:=Am (below_step (by repeat (first|(with_reducible first|exact HB.out|apply bA|apply bN|apply bD|refine bS ?_ GE218.out)|exact HB.out)) hb);clear BK218;clear HB;have BK218:=n0_;have HB:=n1_;clear n0_ n1_;(try clear hb);(try clear hb2);(try clear hk);(try clear hi);have hcz9_0 : w8.cell? ⟨gb218,0,none⟩ = some (.slice A0_0 l0_0.length c0_0):=(kC BK218.out 0).trans rfl;have hcz9_1 : w8.cell? ⟨gb218,1,none⟩ = some (.slice A0_1 l0_1.length c0_1):=(kC BK218.out 1).trans rfl;have hcz9_2 : w8.cell? ⟨gb218,2,none⟩ = some (.int .i64 a0_2):=(kC BK218.out 2).trans rfl;have hcz9_3 : w8.cell? ⟨gb218,3,none⟩ = some (.int .i64 a0_3):=(kC BK218.out 3).trans rfl;have hcz9_4 : w8.cell? ⟨gb218,4,none⟩ = some (.int .i64 a0_4):=(kC BK218.out 4).trans rfl;have hfz9_0:=kF BK218.out 0;have hfz9_1:=kF BK218.out 1;have hfz9_2:=kF BK218.out 2;have hfz9_3:=kF BK218.out 3;have hfz9_4:=kF BK218.out 4)|((with_reducible refine gate_callee (f:=69) rfl ?_);refine goesL_ (some 12) rfl rfl Try.func69 (by kernel_rfl) rfl #[.agg #[.slice A0_0 l0_0.length c0_0,.slice A0_1 l0_1.length c0_1,.int .i64 a0_2,.int .i64 a0_3,.int .i64 a0_4],.int .i64 a1,.int .i64 a1] rfl (by (try simp only [List.map_toArray,List.map_cons,List.map_nil]);first|done|rfl|(simp only [List.length_drop,List.length_take];rfl)) ?_;(with_reducible refine (impl_touched.calls k _ _ l0_0 _ _ l0_1 a0_2 a0_3 a0_4 a1 a1 t220 _ ?side1 ?side2 ?side3 ?side4 A5.out).mono ?_);(case side1 => repeat (first|exact (Kd.C_below HR0_0.out HB.out)|(with_reducible refine Kd.C_alloc ?_ _)|(with_reducible refine Kd.C_drewN ?_ _)|(with_reducible refine Kd.C_drew ?_)));(case side2 => exact HC0_0.out);(case side3 => repeat (first|exact (Kd.C_below HR0_1.out HB.out)|(with_reducible refine Kd.C_alloc ?_ _)|(with_reducible refine Kd.C_drewN ?_ _)|(with_reducible refine Kd.C_drew ?_)));(case side4 => exact HC0_1.out);rintro e w10 ⟨rfl,hb⟩;refine ⟨_,rfl,?_⟩;have n0_:=Am (blk_below (g:=gb218) (o:=.cells #[.slice A0_0 l0_0.length c0_0,.slice A0_1 l0_1.length c0_1,.int .i64 a0_2,.int .i64 a0_3,.int .i64 a0_4] 31 (0,0)) (by (with_reducible repeat (first|refine kN ?_ _|refine kD ?_|refine kA ?_ _));exact BK218.out) hb);have n1_:=Am (below_step (by repeat (first|(with_reducible first|exact HB.out|apply bA|apply bN|apply bD|refine bS ?_ GE218.out)|exact HB.out)) hb);clear BK218;clear HB;have BK218:=n0_;have HB:=n1_;clear n0_ n1_;(try clear hb);(try clear hb2);(try clear hk);(try clear hi)))
  go_ret
  exact ⟨by first|rfl|(simp [errW_none,errW_some] <;> rfl)|(simp [*,errW_none,errW_some] <;> rfl),by repeat (first|(with_reducible first|exact HB.out|apply bA|apply bN|apply bD|refine bS ?_ GE218.out)|exact HB.out)⟩
 ·replace c4:=Bool.eq_false_iff.mpr c4
  subst c4
  have H1 : (some (-1)) = some r:=by rw [if_neg (show ¬ (false = true) by decide)] at H;exact H
  clear H
  have H:=H1
  clear H1
  obtain rfl:=Option.some.inj H
  go_enter Try.func20,Try.ntmps20
  go_wp2_with (first|((with_reducible refine gate_dst (N:=2) rfl ?_);refine box_event ?hg (N:=2) ?hd (cs:=#[.slice A0_0 l0_0.length c0_0,.slice A0_1 l0_1.length c0_1,.int .i64 a0_2,.int .i64 a0_3,.int .i64 a0_4]) (t:=31) ?hr ?_;(case hd => rfl);(case hg => rfl);(case hr => first|(go_simp;done)|(go_simp;rfl));intro gb218 hg w11 hbox hb;have n0_:=Am (below_step (by repeat (first|(with_reducible first|exact HB.out|apply bA|apply bN|apply bD)|exact HB.out)) hb);have n1_:=Am (hbox);have n2_:=Am ((by rw [hg];exact (below_size (by repeat (first|(with_reducible first|exact HB.out|apply bA|apply bN|apply bD)|exact HB.out))) : w.heap.size ≤ gb218));have n3_:=Am ((by rw [hg];exact (below_size (by repeat (first|(with_reducible first|exact HB.out|apply bA|apply bN|apply bD)|exact HB.out))) : w.heap.size ≤ gb218));clear HB;have HB:=n0_;have BK218:=n1_;have GW218:=n2_;have GE218:=n3_;clear n0_ n1_ n2_ n3_;clear hb hbox hg;have hcz12_0 : w11.cell? ⟨gb218,0,none⟩ = some (.slice A0_0 l0_0.length c0_0):=(kC BK218.out 0).trans rfl;have hcz12_1 : w11.cell? ⟨gb218,1,none⟩ = some (.slice A0_1 l0_1.length c0_1):=(kC BK218.out 1).trans rfl;have hcz12_2 : w11.cell? ⟨gb218,2,none⟩ = some (.int .i64 a0_2):=(kC BK218.out 2).trans rfl;have hcz12_3 : w11.cell? ⟨gb218,3,none⟩ = some (.int .i64 a0_3):=(kC BK218.out 3).trans rfl;have hcz12_4 : w11.cell? ⟨gb218,4,none⟩ = some (.int .i64 a0_4):=(kC BK218.out 4).trans rfl;have hfz12_0:=kF BK218.out 0;have hfz12_1:=kF BK218.out 1;have hfz12_2:=kF BK218.out 2;have hfz12_3:=kF BK218.out 3;have hfz12_4:=kF BK218.out 4)|((with_reducible refine gate_callee (f:=68) rfl ?_);refine goesL_ (some 7) rfl rfl Try.func68 (by kernel_rfl) rfl #[.agg #[.slice A0_0 l0_0.length c0_0,.slice A0_1 l0_1.length c0_1,.int .i64 a0_2,.int .i64 a0_3,.int .i64 a0_4],.int .i64 a1] rfl (by (try simp only [List.map_toArray,List.map_cons,List.map_nil]);first|done|rfl|(simp only [List.length_drop,List.length_take];rfl)) ?_;(with_reducible refine (impl_right.calls k _ _ l0_0 _ _ l0_1 a0_2 a0_3 a0_4 a1 false _ ?side1 ?side2 ?side3 ?side4 A3.out).mono ?_);(case side1 => repeat (first|exact (Kd.C_below HR0_0.out HB.out)|(with_reducible refine Kd.C_alloc ?_ _)|(with_reducible refine Kd.C_drewN ?_ _)|(with_reducible refine Kd.C_drew ?_)));(case side2 => exact HC0_0.out);(case side3 => repeat (first|exact (Kd.C_below HR0_1.out HB.out)|(with_reducible refine Kd.C_alloc ?_ _)|(with_reducible refine Kd.C_drewN ?_ _)|(with_reducible refine Kd.C_drew ?_)));(case side4 => exact HC0_1.out);rintro e w13 ⟨rfl,hb⟩;refine ⟨_,rfl,?_⟩;have n0_:=Am (blk_below (g:=gb218) (o:=.cells #[.slice A0_0 l0_0.length c0_0,.slice A0_1 l0_1.length c0_1,.int .i64 a0_2,.int .i64 a0_3,.int .i64 a0_4] 31 (0,0)) (by (with_reducible repeat (first|refine kN ?_ _|refine kD ?_|refine kA ?_ _));exact BK218.out) hb);have n1_:=Am (below_step (by repeat (first|(with_reducible first|exact HB.out|apply bA|apply bN|apply bD|refine bS ?_ GE218.out)|exact HB.out)) hb);clear BK218;clear HB;have BK218:=n0_;have HB:=n1_;clear n0_ n1_;(try clear hb);(try clear hb2);(try clear hk);(try clear hi)))
  go_ret
  exact ⟨by first|rfl|(simp [errW_none,errW_some] <;> rfl)|(simp [*,errW_none,errW_some] <;> rfl),by repeat (first|(with_reducible first|exact HB.out|apply bA|apply bN|apply bD|refine bS ?_ GE218.out)|exact HB.out)⟩

/-! ### laws_FnExactLimitAt: function 4 -/
def laws_FnExactLimitAt.f (k : Nat) (l0_0 : List (S107)) (l0_1 : List (S109)) (a0_2 : Int) (a0_3 : Int) (a0_4 : Int) (a1 : Int) : Option (Bool):=(laws_szProfile.f l0_0 l0_1 a0_2 a0_3 a0_4 1048576).bind fun t222 => (if t222 < 0 then (some true) else ((laws_toProfile.f k l0_0 l0_1 a0_2 a0_3 a0_4).bind fun bt223 => ((spec_LimitAt.f k bt223.1 bt223.2.1 bt223.2.2.1 bt223.2.2.2.1 bt223.2.2.2.2 a1).bind fun t232 => ((laws_toProfile.f k l0_0 l0_1 a0_2 a0_3 a0_4).bind fun bt233 => ((impl_LimitAt.f k bt233.1 bt233.2.1 bt233.2.2.1 bt233.2.2.2.1 bt233.2.2.2.2 a1).bind fun t243 => (if t243 = t232 then ((laws_toProfile.f k l0_0 l0_1 a0_2 a0_3 a0_4).bind fun bt244 => ((laws_eqProfile.f k bt233.1 bt233.2.1 bt233.2.2.1 bt233.2.2.2.1 bt233.2.2.2.2 bt244.1 bt244.2.1 bt244.2.2.1 bt244.2.2.2.1 bt244.2.2.2.2).bind fun t253 => (if t253 = true then (some true) else (some false)))) else (some false)))))))
theorem laws_FnExactLimitAt.mono : ∀ a0 a1 a2 a3 a4 a5 k,LeO (laws_FnExactLimitAt.f k a0 a1 a2 a3 a4 a5) (laws_FnExactLimitAt.f (k + 1) a0 a1 a2 a3 a4 a5):=by
 intro a0 a1 a2 a3 a4 a5 k
 unfold laws_FnExactLimitAt.f
 repeat' first
   | (with_reducible exact impl_LimitAt.mono _ _ _ _ _ _ _)
   | (with_reducible exact laws_eqProfile.mono _ _ _ _ _ _ _ _ _ _ _)
   | (with_reducible exact laws_toProfile.mono _ _ _ _ _ _)
   | (with_reducible exact spec_LimitAt.mono _ _ _ _ _ _ _)
   | (with_reducible exact LeO.refl _)
   | (with_reducible exact LeO.none _)
   | (with_reducible refine LeO.ite ?_ ?_)
   | (with_reducible refine LeO.bind ?_ (fun _ => ?_))
   | exact impl_LimitAt.mono _ _ _ _ _ _ _
   | exact laws_eqProfile.mono _ _ _ _ _ _ _ _ _ _ _
   | exact laws_toProfile.mono _ _ _ _ _ _
   | exact spec_LimitAt.mono _ _ _ _ _ _ _
   | exact LeO.none _
   | refine LeO.ite ?_ ?_
   | refine LeO.bind ?_ (fun _ => ?_)
set_option maxHeartbeats 8000000 in
set_option maxRecDepth 100000 in
theorem laws_FnExactLimitAt.calls (k : Nat) (A0_0 : Option Addr) (c0_0 : Nat) (l0_0 : List (S107)) (A0_1 : Option Addr) (c0_1 : Nat) (l0_1 : List (S109)) (a0_2 : Int) (a0_3 : Int) (a0_4 : Int) (a1 : Int) (r : Bool) (w : World) (hr0_0 : Kd.C k107 w A0_0 l0_0.length l0_0) (hc0_0 : l0_0.length ≤ c0_0) (hr0_1 : Kd.C k109 w A0_1 l0_1.length l0_1) (hc0_1 : l0_1.length ≤ c0_1) (hrt : As (r = true)) (h : laws_FnExactLimitAt.f k l0_0 l0_1 a0_2 a0_3 a0_4 a1 = some r) :
  Calls Try.prog 4 #[.agg #[.slice A0_0 l0_0.length c0_0,.slice A0_1 l0_1.length c0_1,.int .i64 a0_2,.int .i64 a0_3,.int .i64 a0_4],.int .i64 a1] w fun e w' => e = .returned (.bool r)∧Below w.heap.size w w':=by
 have hu25:=Try.underlying25
 have hu31:=Try.underlying31
 have HR0_0:=Am hr0_0
 have HC0_0:=Am hc0_0
 clear hr0_0 hc0_0
 have HR0_1:=Am hr0_1
 have HC0_1:=Am hc0_1
 clear hr0_1 hc0_1
 have HB:=Am (Below.refl w.heap.size w)
 have H : ((laws_szProfile.f l0_0 l0_1 a0_2 a0_3 a0_4 1048576).bind fun t222 => (if t222 < 0 then (some true) else ((laws_toProfile.f k l0_0 l0_1 a0_2 a0_3 a0_4).bind fun bt223 => ((spec_LimitAt.f k bt223.1 bt223.2.1 bt223.2.2.1 bt223.2.2.2.1 bt223.2.2.2.2 a1).bind fun t232 => ((laws_toProfile.f k l0_0 l0_1 a0_2 a0_3 a0_4).bind fun bt233 => ((impl_LimitAt.f k bt233.1 bt233.2.1 bt233.2.2.1 bt233.2.2.2.1 bt233.2.2.2.2 a1).bind fun t243 => (if t243 = t232 then ((laws_toProfile.f k l0_0 l0_1 a0_2 a0_3 a0_4).bind fun bt244 => ((laws_eqProfile.f k bt233.1 bt233.2.1 bt233.2.2.1 bt233.2.2.2.1 bt233.2.2.2.2 bt244.1 bt244.2.1 bt244.2.2.1 bt244.2.2.2.1 bt244.2.2.2.2).bind fun t253 => (if t253 = true then (some true) else (some false)))) else (some false)))))))) = some r:=h
 clear h
 replace H:=Option.bind_eq_some_iff.mp H
 obtain ⟨t222,A30,H⟩:=H
 replace H : (if t222 < 0 then (some true) else ((laws_toProfile.f k l0_0 l0_1 a0_2 a0_3 a0_4).bind fun bt223 => ((spec_LimitAt.f k bt223.1 bt223.2.1 bt223.2.2.1 bt223.2.2.2.1 bt223.2.2.2.2 a1).bind fun t232 => ((laws_toProfile.f k l0_0 l0_1 a0_2 a0_3 a0_4).bind fun bt233 => ((impl_LimitAt.f k bt233.1 bt233.2.1 bt233.2.2.1 bt233.2.2.2.1 bt233.2.2.2.2 a1).bind fun t243 => (if t243 = t232 then ((laws_toProfile.f k l0_0 l0_1 a0_2 a0_3 a0_4).bind fun bt244 => ((laws_eqProfile.f k bt233.1 bt233.2.1 bt233.2.2.1 bt233.2.2.2.1 bt233.2.2.2.2 bt244.1 bt244.2.1 bt244.2.2.1 bt244.2.2.2.1 bt244.2.2.2.2).bind fun t253 => (if t253 = true then (some true) else (some false)))) else (some false))))))) = some r:=H
 have A3:=Am A30
 clear A30
 by_cases c4 : t222 < 0
 ·rw [if_pos c4] at H
  have c4b0 : decide (t222 < 0) = true:=decide_eq_true c4
  clear c4
  obtain rfl:=Option.some.inj H
  go_enter Try.func4,Try.ntmps4
  go_wp2_with (first|((with_reducible refine gate_dst (N:=2) rfl ?_);refine box_event ?hg (N:=2) ?hd (cs:=#[.slice A0_0 l0_0.length c0_0,.slice A0_1 l0_1.length c0_1,.int .i64 a0_2,.int .i64 a0_3,.int .i64 a0_4]) (t:=25) ?hr ?_;(case hd => rfl);(case hg => rfl);(case hr => first|(go_simp;done)|(go_simp;rfl));intro gb221 hg w5 hbox hb;have n0_:=Am (below_step (by repeat (first|(with_reducible first|exact HB.out|apply bA|apply bN|apply bD)|exact HB.out)) hb);have n1_:=Am (hbox);have n2_:=Am ((by rw [hg];exact (below_size (by repeat (first|(with_reducible first|exact HB.out|apply bA|apply bN|apply bD)|exact HB.out))) : w.heap.size ≤ gb221));have n3_:=Am ((by rw [hg];exact (below_size (by repeat (first|(with_reducible first|exact HB.out|apply bA|apply bN|apply bD)|exact HB.out))) : w.heap.size ≤ gb221));clear HB;have HB:=n0_;have BK221:=n1_;have GW221:=n2_;have GE221:=n3_;clear n0_ n1_ n2_ n3_;clear hb hbox hg;have hcz6_0 : w5.cell? ⟨gb221,0,none⟩ = some (.slice A0_0 l0_0.length c0_0):=(kC BK221.out 0).trans rfl;have hcz6_1 : w5.cell? ⟨gb221,1,none⟩ = some (.slice A0_1 l0_1.length c0_1):=(kC BK221.out 1).trans rfl;have hcz6_2 : w5.cell? ⟨gb221,2,none⟩ = some (.int .i64 a0_2):=(kC BK221.out 2).trans rfl;have hcz6_3 : w5.cell? ⟨gb221,3,none⟩ = some (.int .i64 a0_3):=(kC BK221.out 3).trans rfl;have hcz6_4 : w5.cell? ⟨gb221,4,none⟩ = some (.int .i64 a0_4):=(kC BK221.out 4).trans rfl;have hfz6_0:=kF BK221.out 0;have hfz6_1:=kF BK221.out 1;have hfz6_2:=kF BK221.out 2;have hfz6_3:=kF BK221.out 3;have hfz6_4:=kF BK221.out 4)|((with_reducible refine gate_callee (f:=14) rfl ?_);refine goesL_ (some 11) rfl rfl Try.func14 (by kernel_rfl) rfl #[.agg #[.slice A0_0 l0_0.length c0_0,.slice A0_1 l0_1.length c0_1,.int .i64 a0_2,.int .i64 a0_3,.int .i64 a0_4],.int .i64 1048576] rfl (by (try simp only [List.map_toArray,List.map_cons,List.map_nil]);first|done|rfl|(simp only [List.length_drop,List.length_take];rfl)) ?_;(with_reducible refine (laws_szProfile.calls _ _ l0_0 _ _ l0_1 a0_2 a0_3 a0_4 1048576 t222 _ ?side1 ?side2 ?side3 ?side4 A3.out).mono ?_);(case side1 => repeat (first|exact (Kd.C_below HR0_0.out HB.out)|(with_reducible refine Kd.C_alloc ?_ _)|(with_reducible refine Kd.C_drewN ?_ _)|(with_reducible refine Kd.C_drew ?_)));(case side2 => exact HC0_0.out);(case side3 => repeat (first|exact (Kd.C_below HR0_1.out HB.out)|(with_reducible refine Kd.C_alloc ?_ _)|(with_reducible refine Kd.C_drewN ?_ _)|(with_reducible refine Kd.C_drew ?_)));(case side4 => exact HC0_1.out);rintro e w7 ⟨rfl,hb⟩;refine ⟨_,rfl,?_⟩;have n0_:=Am (blk_below (g:=gb221) (o:=.cells #[.slice A0_0 l0_0.length c0_0,.slice A0_1 l0_1.length c0_1,.int .i64 a0_2,.int .i64 a0_3,.int .i64 a0_4] 25 (0,0)) (by (with_reducible repeat (first|refine kN ?_ _|refine kD ?_|refine kA ?_ _));exact BK221.out) hb);have n1_:=Am (below_step (by repeat (first|(with_reducible first|exact HB.out|apply bA|apply bN|apply bD|refine bS ?_ GE221.out)|exact HB.out)) hb);clear BK221;clear HB;have BK221:=n0_;have HB:=n1_;clear n0_ n1_;(try clear hb);(try clear hb2);(try clear hk);(try clear hi)))
  go_ret
  exact ⟨by first|rfl|(simp [errW_none,errW_some] <;> rfl)|(simp [*,errW_none,errW_some] <;> rfl),by repeat (first|(with_reducible first|exact HB.out|apply bA|apply bN|apply bD|refine bS ?_ GE221.out)|exact HB.out)⟩
 ·rw [if_neg c4] at H
  have c4b0 : decide (t222 < 0) = false:=decide_eq_false c4
  clear c4
  replace H:=Option.bind_eq_some_iff.mp H
  obtain ⟨⟨t223,t226,t229,t230,t231⟩,A80,H⟩:=H
  replace H : ((spec_LimitAt.f k t223 t226 t229 t230 t231 a1).bind fun t232 => ((laws_toProfile.f k l0_0 l0_1 a0_2 a0_3 a0_4).bind fun bt233 => ((impl_LimitAt.f k bt233.1 bt233.2.1 bt233.2.2.1 bt233.2.2.2.1 bt233.2.2.2.2 a1).bind fun t243 => (if t243 = t232 then ((laws_toProfile.f k l0_0 l0_1 a0_2 a0_3 a0_4).bind fun bt244 => ((laws_eqProfile.f k bt233.1 bt233.2.1 bt233.2.2.1 bt233.2.2.2.1 bt233.2.2.2.2 bt244.1 bt244.2.1 bt244.2.2.1 bt244.2.2.2.1 bt244.2.2.2.2).bind fun t253 => (if t253 = true then (some true) else (some false)))) else (some false))))) = some r:=H
  have A8:=Am A80
  clear A80
  replace H:=Option.bind_eq_some_iff.mp H
  obtain ⟨t232,A90,H⟩:=H
  replace H : ((laws_toProfile.f k l0_0 l0_1 a0_2 a0_3 a0_4).bind fun bt233 => ((impl_LimitAt.f k bt233.1 bt233.2.1 bt233.2.2.1 bt233.2.2.2.1 bt233.2.2.2.2 a1).bind fun t243 => (if t243 = t232 then ((laws_toProfile.f k l0_0 l0_1 a0_2 a0_3 a0_4).bind fun bt244 => ((laws_eqProfile.f k bt233.1 bt233.2.1 bt233.2.2.1 bt233.2.2.2.1 bt233.2.2.2.2 bt244.1 bt244.2.1 bt244.2.2.1 bt244.2.2.2.1 bt244.2.2.2.2).bind fun t253 => (if t253 = true then (some true) else (some false)))) else (some false)))) = some r:=H
  have A9:=Am A90
  clear A90
  replace H:=Option.bind_eq_some_iff.mp H
  obtain ⟨⟨t233,t236,t239,t240,t241⟩,A100,H⟩:=H
  replace H : ((impl_LimitAt.f k t233 t236 t239 t240 t241 a1).bind fun t243 => (if t243 = t232 then ((laws_toProfile.f k l0_0 l0_1 a0_2 a0_3 a0_4).bind fun bt244 => ((laws_eqProfile.f k t233 t236 t239 t240 t241 bt244.1 bt244.2.1 bt244.2.2.1 bt244.2.2.2.1 bt244.2.2.2.2).bind fun t253 => (if t253 = true then (some true) else (some false)))) else (some false))) = some r:=H
  have A10:=Am A100
  clear A100
  replace H:=Option.bind_eq_some_iff.mp H
  obtain ⟨t243,A110,H⟩:=H
  replace H : (if t243 = t232 then ((laws_toProfile.f k l0_0 l0_1 a0_2 a0_3 a0_4).bind fun bt244 => ((laws_eqProfile.f k t233 t236 t239 t240 t241 bt244.1 bt244.2.1 bt244.2.2.1 bt244.2.2.2.1 bt244.2.2.2.2).bind fun t253 => (if t253 = true then (some true) else (some false)))) else (some false)) = some r:=H
  have A11:=Am A110
  clear A110
  by_cases c12 : t243 = t232
  ·rw [if_pos c12] at H
   have c12b0 : (t243 == t232) = true:=beq_iff_eq.mpr c12
   have c12b1 : (t243 != t232) = false:=bne_eq_false_iff_eq.mpr c12
   clear c12
   replace H:=Option.bind_eq_some_iff.mp H
   obtain ⟨⟨t244,t247,t250,t251,t252⟩,A130,H⟩:=H
   replace H : ((laws_eqProfile.f k t233 t236 t239 t240 t241 t244 t247 t250 t251 t252).bind fun t253 => (if t253 = true then (some true) else (some false))) = some r:=H
   have A13:=Am A130
   clear A130
   replace H:=Option.bind_eq_some_iff.mp H
   obtain ⟨t253,A140,H⟩:=H
   replace H : (if t253 = true then (some true) else (some false)) = some r:=H
   have A14:=Am A140
   clear A140
   by_cases c15 : t253 = true
   ·subst c15
    have H1 : (some true) = some r:=by rw [if_pos rfl] at H;exact H
    clear H
    have H:=H1
    clear H1
    obtain rfl:=Option.some.inj H
    go_enter Try.func4,Try.ntmps4
    try go_wp2_with (first|((with_reducible refine gate_dst (N:=2) rfl ?_);refine box_event ?hg (N:=2) ?hd (cs:=#[.slice A0_0 l0_0.length c0_0,.slice A0_1 l0_1.length c0_1,.int .i64 a0_2,.int .i64 a0_3,.int .i64 a0_4]) (t:=25) ?hr ?_;(case hd => rfl);(case hg => rfl);(case hr => first|(go_simp;done)|(go_simp;rfl));intro gb221 hg w16 hbox hb;have n0_:=Am (below_step (by repeat (first|(with_reducible first|exact HB.out|apply bA|apply bN|apply bD)|exact HB.out)) hb);have n1_:=Am (hbox);have n2_:=Am ((by rw [hg];exact (below_size (by repeat (first|(with_reducible first|exact HB.out|apply bA|apply bN|apply bD)|exact HB.out))) : w.heap.size ≤ gb221));have n3_:=Am ((by rw [hg];exact (below_size (by repeat (first|(with_reducible first|exact HB.out|apply bA|apply bN|apply bD)|exact HB.out))) : w.heap.size ≤ gb221));clear HB;have HB:=n0_;have BK221:=n1_;have GW221:=n2_;have GE221:=n3_;clear n0_ n1_ n2_ n3_;clear hb hbox hg;have hcz17_0 : w16.cell? ⟨gb221,0,none⟩ = some (.slice A0_0 l0_0.length c0_0):=(kC BK221.out 0).trans rfl;have hcz17_1 : w16.cell? ⟨gb221,1,none⟩ = some (.slice A0_1 l0_1.length c0_1):=(kC BK221.out 1).trans rfl;have hcz17_2 : w16.cell? ⟨gb221,2,none⟩ = some (.int .i64 a0_2):=(kC BK221.out 2).trans rfl;have hcz17_3 : w16.cell? ⟨gb221,3,none⟩ = some (.int .i64 a0_3):=(kC BK221.out 3).trans rfl;have hcz17_4 : w16.cell? ⟨gb221,4,none⟩ = some (.int .i64 a0_4):=(kC BK221.out 4).trans rfl;have hfz17_0:=kF BK221.out 0;have hfz17_1:=kF BK221.out 1;have hfz17_2:=kF BK221.out 2;have hfz17_3:=kF BK221.out 3;have hfz17_4:=kF BK221.out 4)|((with_reducible refine gate_callee (f:=14) rfl ?_);refine goesL_ (some 11) rfl rfl Try.func14 (by kernel_rfl) rfl #[.agg #[.slice A0_0 l0_0.length c0_0,.slice A0_1 l0_1.length c0_1,.int .i64 a0_2,.int .i64 a0_3,.int .i64 a0_4],.int .i64 1048576] rfl (by (try simp only [List.map_toArray,List.map_cons,List.map_nil]);first|done|rfl|(simp only [List.length_drop,List.length_take];rfl)) ?_;(with_reducible refine (laws_szProfile.calls _ _ l0_0 _ _ l0_1 a0_2 a0_3 a0_4 1048576 t222 _ ?side1 ?side2 ?side3 ?side4 A3.out).mono ?_);(case side1 => repeat (first|exact (Kd.C_below HR0_0.out HB.out)|(with_reducible refine Kd.C_alloc ?_ _)|(with_reducible refine Kd.C_drewN ?_ _)|(with_reducible refine Kd.C_drew ?_)));(case side2 => exact HC0_0.out);(case side3 => repeat (first|exact (Kd.C_below HR0_1.out HB.out)|(with_reducible refine Kd.C_alloc ?_ _)|(with_reducible refine Kd.C_drewN ?_ _)|(with_reducible refine Kd.C_drew ?_)));(case side4 => exact HC0_1.out);rintro e w18 ⟨rfl,hb⟩;refine ⟨_,rfl,?_⟩;have n0_:=Am (blk_below (g:=gb221) (o:=.cells #[.slice A0_0 l0_0.length c0_0,.slice A0_1 l0_1.length c0_1,.int .i64 a0_2,.int .i64 a0_3,.int .i64 a0_4] 25 (0,0)) (by (with_reducible repeat (first|refine kN ?_ _|refine kD ?_|refine kA ?_ _));exact BK221.out) hb);have n1_:=Am (below_step (by repeat (first|(with_reducible first|exact HB.out|apply bA|apply bN|apply bD|refine bS ?_ GE221.out)|exact HB.out)) hb);clear BK221;clear HB;have BK221:=n0_;have HB:=n1_;clear n0_ n1_;(try clear hb);(try clear hb2);(try clear hk);(try clear hi);have hcz19_0 : w18.cell? ⟨gb221,0,none⟩ = some (.slice A0_0 l0_0.length c0_0):=(kC BK221.out 0).trans rfl;have hcz19_1 : w18.cell? ⟨gb221,1,none⟩ = some (.slice A0_1 l0_1.length c0_1):=(kC BK221.out 1).trans rfl;have hcz19_2 : w18.cell? ⟨gb221,2,none⟩ = some (.int .i64 a0_2):=(kC BK221.out 2).trans rfl;have hcz19_3 : w18.cell? ⟨gb221,3,none⟩ = some (.int .i64 a0_3):=(kC BK221.out 3).trans rfl;have hcz19_4 : w18.cell? ⟨gb221,4,none⟩ = some (.int .i64 a0_4):=(kC BK221.out 4).trans rfl;have hfz19_0:=kF BK221.out 0;have hfz19_1:=kF BK221.out 1;have hfz19_2:=kF BK221.out 2;have hfz19_3:=kF BK221.out 3;have hfz19_4:=kF BK221.out 4)|((with_reducible refine gate_callee (f:=16) rfl ?_);refine goesL_ (some 15) rfl rfl Try.func16 (by kernel_rfl) rfl #[.agg #[.slice A0_0 l0_0.length c0_0,.slice A0_1 l0_1.length c0_1,.int .i64 a0_2,.int .i64 a0_3,.int .i64 a0_4]] rfl (by (try simp only [List.map_toArray,List.map_cons,List.map_nil]);first|done|rfl|(simp only [List.length_drop,List.length_take];rfl)) ?_;(with_reducible refine (laws_toProfile.calls k _ _ l0_0 _ _ l0_1 a0_2 a0_3 a0_4 t223 t226 t229 t230 t231 _ ?side1 ?side2 ?side3 ?side4 A8.out).mono ?_);(case side1 => repeat (first|exact (Kd.C_below HR0_0.out HB.out)|(with_reducible refine Kd.C_alloc ?_ _)|(with_reducible refine Kd.C_drewN ?_ _)|(with_reducible refine Kd.C_drew ?_)));(case side2 => exact HC0_0.out);(case side3 => repeat (first|exact (Kd.C_below HR0_1.out HB.out)|(with_reducible refine Kd.C_alloc ?_ _)|(with_reducible refine Kd.C_drewN ?_ _)|(with_reducible refine Kd.C_drew ?_)));(case side4 => exact HC0_1.out);rintro e w20 ⟨v224,v227,rfl,ho0,ho1,hb⟩;refine ⟨_,rfl,?_⟩;have n0_:=Am (Kd.R_lower ho0 (below_size (by repeat (first|(with_reducible first|exact HB.out|apply bA|apply bN|apply bD|refine bS ?_ GE221.out)|exact HB.out))));have n1_:=Am (Kd.R_lower ho1 (below_size (by repeat (first|(with_reducible first|exact HB.out|apply bA|apply bN|apply bD|refine bS ?_ GE221.out)|exact HB.out))));have n2_:=Am (blk_below (g:=gb221) (o:=.cells #[.slice A0_0 l0_0.length c0_0,.slice A0_1 l0_1.length c0_1,.int .i64 a0_2,.int .i64 a0_3,.int .i64 a0_4] 25 (0,0)) (by (with_reducible repeat (first|refine kN ?_ _|refine kD ?_|refine kA ?_ _));exact BK221.out) hb);have n3_:=Am (below_step (by repeat (first|(with_reducible first|exact HB.out|apply bA|apply bN|apply bD|refine bS ?_ GE221.out)|exact HB.out)) hb);clear BK221;clear HB;have HO225:=n0_;have HO228:=n1_;have BK221:=n2_;have HB:=n3_;clear n0_ n1_ n2_ n3_;(try clear hb);(try clear hb2);(try clear hk);(try clear hi);(try clear ho0);(try clear ho1);obtain ⟨Ao21,co21,eo21⟩:=Kd.R_slice HO225.out;subst eo21;obtain ⟨Ao22,co22,eo22⟩:=Kd.R_slice HO228.out;subst eo22)|((with_reducible refine gate_callee (f:=19) rfl ?_);refine goesL_ (some 17) rfl rfl Try.func19 (by kernel_rfl) rfl #[.agg #[.slice Ao21 t223.length co21,.slice Ao22 t226.length co22,.int .i64 t229,.int .i64 t230,.int .i64 t231],.int .i64 a1] rfl (by (try simp only [List.map_toArray,List.map_cons,List.map_nil]);first|done|rfl|(simp only [List.length_drop,List.length_take];rfl)) ?_;(with_reducible refine (spec_LimitAt.calls k _ _ t223 _ _ t226 t229 t230 t231 a1 t232 _ ?side1 ?side2 ?side3 ?side4 A9.out).mono ?_);(case side1 => repeat (first|exact (Kd.R_reads' HO225.out).2.2|(with_reducible refine Kd.C_alloc ?_ _)|(with_reducible refine Kd.C_drewN ?_ _)|(with_reducible refine Kd.C_drew ?_)));(case side2 => exact (Kd.R_reads' HO225.out).2.1);(case side3 => repeat (first|exact (Kd.R_reads' HO228.out).2.2|(with_reducible refine Kd.C_alloc ?_ _)|(with_reducible refine Kd.C_drewN ?_ _)|(with_reducible refine Kd.C_drew ?_)));(case side4 => exact (Kd.R_reads' HO228.out).2.1);rintro e w23 ⟨rfl,hb⟩;refine ⟨_,rfl,?_⟩;have n0_:=Am (Kd.R_below (by (with_reducible repeat (first|apply Kd.R_alloc|apply Kd.R_drewN|apply Kd.R_drew));exact HO225.out) hb);have n1_:=Am (Kd.R_below (by (with_reducible repeat (first|apply Kd.R_alloc|apply Kd.R_drewN|apply Kd.R_drew));exact HO228.out) hb);have n2_:=Am (blk_below (g:=gb221) (o:=.cells #[.slice A0_0 l0_0.length c0_0,.slice A0_1 l0_1.length c0_1,.int .i64 a0_2,.int .i64 a0_3,.int .i64 a0_4] 25 (0,0)) (by (with_reducible repeat (first|refine kN ?_ _|refine kD ?_|refine kA ?_ _));exact BK221.out) hb);have n3_:=Am (below_step (by repeat (first|(with_reducible first|exact HB.out|apply bA|apply bN|apply bD|refine bS ?_ GE221.out)|exact HB.out)) hb);clear HO225;clear HO228;clear BK221;clear HB;have HO225:=n0_;have HO228:=n1_;have BK221:=n2_;have HB:=n3_;clear n0_ n1_ n2_ n3_;(try clear hb);(try clear hb2);(try clear hk);(try clear hi);have hcz24_0 : w23.cell? ⟨gb221,0,none⟩ = some (.slice A0_0 l0_0.length c0_0):=(kC BK221.out 0).trans rfl;have hcz24_1 : w23.cell? ⟨gb221,1,none⟩ = some (.slice A0_1 l0_1.length c0_1):=(kC BK221.out 1).trans rfl;have hcz24_2 : w23.cell? ⟨gb221,2,none⟩ = some (.int .i64 a0_2):=(kC BK221.out 2).trans rfl;have hcz24_3 : w23.cell? ⟨gb221,3,none⟩ = some (.int .i64 a0_3):=(kC BK221.out 3).trans rfl;have hcz24_4 : w23.cell? ⟨gb221,4,none⟩ = some (.int .i64 a0_4):=(kC BK221.out 4).trans rfl;have hfz24_0:=kF BK221.out 0;have hfz24_1:=kF BK221.out 1;have hfz24_2:=kF BK221.out 2;have hfz24_3:=kF BK221.out 3;have hfz24_4:=kF BK221.out 4)|((with_reducible refine gate_callee (f:=16) rfl ?_);refine goesL_ (some 19) rfl rfl Try.func16 (by kernel_rfl) rfl #[.agg #[.slice A0_0 l0_0.length c0_0,.slice A0_1 l0_1.length c0_1,.int .i64 a0_2,.int .i64 a0_3,.int .i64 a0_4]] rfl (by (try simp only [List.map_toArray,List.map_cons,List.map_nil]);first|done|rfl|(simp only [List.length_drop,List.length_take];rfl)) ?_;(with_reducible refine (laws_toProfile.calls k _ _ l0_0 _ _ l0_1 a0_2 a0_3 a0_4 t233 t236 t239 t240 t241 _ ?side1 ?side2 ?side3 ?side4 A10.out).mono ?_);(case side1 => repeat (first|exact (Kd.C_below HR0_0.out HB.out)|(with_reducible refine Kd.C_alloc ?_ _)|(with_reducible refine Kd.C_drewN ?_ _)|(with_reducible refine Kd.C_drew ?_)));(case side2 => exact HC0_0.out);(case side3 => repeat (first|exact (Kd.C_below HR0_1.out HB.out)|(with_reducible refine Kd.C_alloc ?_ _)|(with_reducible refine Kd.C_drewN ?_ _)|(with_reducible refine Kd.C_drew ?_)));(case side4 => exact HC0_1.out);rintro e w25 ⟨v234,v237,rfl,ho0,ho1,hb⟩;refine ⟨_,rfl,?_⟩;have n0_:=Am (Kd.R_elder' (by (with_reducible repeat (first|apply Kd.R_alloc|apply Kd.R_drewN|apply Kd.R_drew));exact HO225.out) (Kd.R_base ho0) hb);have n1_:=Am (Kd.R_elder' (by (with_reducible repeat (first|apply Kd.R_alloc|apply Kd.R_drewN|apply Kd.R_drew));exact HO228.out) (Kd.R_base ho1) hb);have n2_:=Am (Kd.R_lower (Kd.R_new' ho0 (Kd.R_lt (by (with_reducible repeat (first|apply Kd.R_alloc|apply Kd.R_drewN|apply Kd.R_drew));exact HO225.out))) (below_size (by repeat (first|(with_reducible first|exact HB.out|apply bA|apply bN|apply bD|refine bS ?_ GE221.out)|exact HB.out))));have n3_:=Am (Kd.R_lower (Kd.R_new' ho1 (Kd.R_lt (by (with_reducible repeat (first|apply Kd.R_alloc|apply Kd.R_drewN|apply Kd.R_drew));exact HO228.out))) (below_size (by repeat (first|(with_reducible first|exact HB.out|apply bA|apply bN|apply bD|refine bS ?_ GE221.out)|exact HB.out))));have n4_:=Am (blk_below (g:=gb221) (o:=.cells #[.slice A0_0 l0_0.length c0_0,.slice A0_1 l0_1.length c0_1,.int .i64 a0_2,.int .i64 a0_3,.int .i64 a0_4] 25 (0,0)) (by (with_reducible repeat (first|refine kN ?_ _|refine kD ?_|refine kA ?_ _));exact BK221.out) hb);have n5_:=Am (below_step (by repeat (first|(with_reducible first|exact HB.out|apply bA|apply bN|apply bD|refine bS ?_ GE221.out)|exact HB.out)) hb);clear HO225;clear HO228;clear BK221;clear HB;have HO225:=n0_;have HO228:=n1_;have HO235:=n2_;have HO238:=n3_;have BK221:=n4_;have HB:=n5_;clear n0_ n1_ n2_ n3_ n4_ n5_;(try clear hb);(try clear hb2);(try clear hk);(try clear hi);(try clear ho0);(try clear ho1))|((with_reducible refine gate_dst (N:=7) rfl ?_);refine box_event ?hg (N:=7) ?hd (cs:=#[.slice none 0 0,.slice none 0 0,.int .i64 0,.int .i64 0,.int .i64 0]) (t:=31) ?hr ?_;(case hd => rfl);(case hg => rfl);(case hr => first|(go_simp;done)|(go_simp;rfl));intro gb242 hg w26 hbox hb;have n0_:=Am (Kd.R_below (by (with_reducible repeat (first|apply Kd.R_alloc|apply Kd.R_drewN|apply Kd.R_drew));exact HO225.out) hb);have n1_:=Am (Kd.R_below (by (with_reducible repeat (first|apply Kd.R_alloc|apply Kd.R_drewN|apply Kd.R_drew));exact HO228.out) hb);have n2_:=Am (Kd.R_below (by (with_reducible repeat (first|apply Kd.R_alloc|apply Kd.R_drewN|apply Kd.R_drew));exact HO235.out) hb);have n3_:=Am (Kd.R_below (by (with_reducible repeat (first|apply Kd.R_alloc|apply Kd.R_drewN|apply Kd.R_drew));exact HO238.out) hb);have n4_:=Am (blk_below (g:=gb221) (o:=.cells #[.slice A0_0 l0_0.length c0_0,.slice A0_1 l0_1.length c0_1,.int .i64 a0_2,.int .i64 a0_3,.int .i64 a0_4] 25 (0,0)) (by (with_reducible repeat (first|refine kN ?_ _|refine kD ?_|refine kA ?_ _));exact BK221.out) hb);have n5_:=Am (below_step (by repeat (first|(with_reducible first|exact HB.out|apply bA|apply bN|apply bD|refine bS ?_ GE221.out)|exact HB.out)) hb);have n6_:=Am (hbox);have n7_:=Am ((by rw [hg];exact (below_size (by repeat (first|(with_reducible first|exact HB.out|apply bA|apply bN|apply bD|refine bS ?_ GE221.out)|exact HB.out))) : w.heap.size ≤ gb242));have n8_:=Am ((by rw [hg];exact (below_size (by repeat (first|(with_reducible first|exact HB.out|apply bA|apply bN|apply bD|refine bS ?_ GE221.out)|exact HB.out))) : w.heap.size ≤ gb242));have n9_:=Am ((by rw [hg];exact Nat.ne_of_lt (blk_lt (g:=gb221) (o:=.cells #[.slice A0_0 l0_0.length c0_0,.slice A0_1 l0_1.length c0_1,.int .i64 a0_2,.int .i64 a0_3,.int .i64 a0_4] 25 (0,0)) (by (with_reducible repeat (first|refine kN ?_ _|refine kD ?_|refine kA ?_ _));exact BK221.out)) : gb221 ≠ gb242));have n10_:=Am ((by rw [hg];exact Nat.ne_of_gt (blk_lt (g:=gb221) (o:=.cells #[.slice A0_0 l0_0.length c0_0,.slice A0_1 l0_1.length c0_1,.int .i64 a0_2,.int .i64 a0_3,.int .i64 a0_4] 25 (0,0)) (by (with_reducible repeat (first|refine kN ?_ _|refine kD ?_|refine kA ?_ _));exact BK221.out)) : gb242 ≠ gb221));clear HO225;clear HO228;clear HO235;clear HO238;clear BK221;clear HB;have HO225:=n0_;have HO228:=n1_;have HO235:=n2_;have HO238:=n3_;have BK221:=n4_;have HB:=n5_;have BK242:=n6_;have GW242:=n7_;have GE242:=n8_;have NB221_242:=n9_;have NB242_221:=n10_;clear n0_ n1_ n2_ n3_ n4_ n5_ n6_ n7_ n8_ n9_ n10_;clear hb hbox hg;obtain ⟨Ao27,co27,eo27⟩:=Kd.R_slice HO235.out;subst eo27;have hnb28:=NB242_221.out;have hnc28:=NB221_242.out;have hcz29_0 : w26.cell? ⟨gb242,0,none⟩ = some (.slice none 0 0):=(kC BK242.out 0).trans rfl;have hcz29_1 : w26.cell? ⟨gb242,1,none⟩ = some (.slice none 0 0):=(kC BK242.out 1).trans rfl;have hcz29_2 : w26.cell? ⟨gb242,2,none⟩ = some (.int .i64 0):=(kC BK242.out 2).trans rfl;have hcz29_3 : w26.cell? ⟨gb242,3,none⟩ = some (.int .i64 0):=(kC BK242.out 3).trans rfl;have hcz29_4 : w26.cell? ⟨gb242,4,none⟩ = some (.int .i64 0):=(kC BK242.out 4).trans rfl;have hfz29_0:=kF BK242.out 0;have hfz29_1:=kF BK242.out 1;have hfz29_2:=kF BK242.out 2;have hfz29_3:=kF BK242.out 3;have hfz29_4:=kF BK242.out 4;obtain ⟨Ao30,co30,eo30⟩:=Kd.R_slice HO238.out;subst eo30)|((with_reducible refine gate_callee (f:=20) rfl ?_);refine goesL_ (some 22) rfl rfl Try.func20 (by kernel_rfl) rfl #[.agg #[.slice Ao27 t233.length co27,.slice Ao30 t236.length co30,.int .i64 t239,.int .i64 t240,.int .i64 t241],.int .i64 a1] rfl (by (try simp only [List.map_toArray,List.map_cons,List.map_nil]);first|done|rfl|(simp only [List.length_drop,List.length_take];rfl)) ?_;(with_reducible refine (impl_LimitAt.calls k _ _ t233 _ _ t236 t239 t240 t241 a1 t243 _ ?side1 ?side2 ?side3 ?side4 A11.out).mono ?_);(case side1 => refine (Kd.R_reads' (e:=71) (base:=w.heap.size) (ok:=fun k_ => (True∧some k_ ≠ (.slice Ao21 t223.length co21 : Value).ownBlock)) (n:=t233.length) (c:=co27) ?_).2.2;exact (by (with_reducible repeat (first|apply Kd.R_alloc|apply Kd.R_drewN|apply Kd.R_drew));exact (Kd.R_mono (Kd.R_far (p:=⟨gb242,4,none⟩) (Kd.R_far (p:=⟨gb242,3,none⟩) (Kd.R_far (p:=⟨gb242,2,none⟩) (Kd.R_far (p:=⟨gb242,1,none⟩) (Kd.R_far (p:=⟨gb242,0,none⟩) (Kd.R_types HO235.out BK242.out (by decide)) (fun _ hk => hk.2) (.slice Ao27 t233.length co27)) (fun _ hk => hk.2) (.slice Ao30 t236.length co30)) (fun _ hk => hk.2) (.int .i64 t239)) (fun _ hk => hk.2) (.int .i64 t240)) (fun _ hk => hk.2) (.int .i64 t241)) (fun _ h_ => h_.1))));(case side2 => exact (Kd.R_reads' HO235.out).2.1);(case side3 => refine (Kd.R_reads' (e:=75) (base:=w.heap.size) (ok:=fun k_ => (True∧some k_ ≠ (.slice Ao22 t226.length co22 : Value).ownBlock)) (n:=t236.length) (c:=co30) ?_).2.2;exact (by (with_reducible repeat (first|apply Kd.R_alloc|apply Kd.R_drewN|apply Kd.R_drew));exact (Kd.R_mono (Kd.R_far (p:=⟨gb242,4,none⟩) (Kd.R_far (p:=⟨gb242,3,none⟩) (Kd.R_far (p:=⟨gb242,2,none⟩) (Kd.R_far (p:=⟨gb242,1,none⟩) (Kd.R_far (p:=⟨gb242,0,none⟩) (Kd.R_types HO238.out BK242.out (by decide)) (fun _ hk => hk.2) (.slice Ao27 t233.length co27)) (fun _ hk => hk.2) (.slice Ao30 t236.length co30)) (fun _ hk => hk.2) (.int .i64 t239)) (fun _ hk => hk.2) (.int .i64 t240)) (fun _ hk => hk.2) (.int .i64 t241)) (fun _ h_ => h_.1))));(case side4 => exact (Kd.R_reads' HO238.out).2.1);rintro e w31 ⟨rfl,hb⟩;refine ⟨_,rfl,?_⟩;have n0_:=Am (Kd.R_below (by (with_reducible repeat (first|apply Kd.R_alloc|apply Kd.R_drewN|apply Kd.R_drew));exact (Kd.R_mono (Kd.R_far (p:=⟨gb242,4,none⟩) (Kd.R_far (p:=⟨gb242,3,none⟩) (Kd.R_far (p:=⟨gb242,2,none⟩) (Kd.R_far (p:=⟨gb242,1,none⟩) (Kd.R_far (p:=⟨gb242,0,none⟩) (Kd.R_types HO225.out BK242.out (by decide)) (fun _ hk => hk.2) (.slice Ao27 t233.length co27)) (fun _ hk => hk.2) (.slice Ao30 t236.length co30)) (fun _ hk => hk.2) (.int .i64 t239)) (fun _ hk => hk.2) (.int .i64 t240)) (fun _ hk => hk.2) (.int .i64 t241)) (fun _ h_ => h_.1))) hb);have n1_:=Am (Kd.R_below (by (with_reducible repeat (first|apply Kd.R_alloc|apply Kd.R_drewN|apply Kd.R_drew));exact (Kd.R_mono (Kd.R_far (p:=⟨gb242,4,none⟩) (Kd.R_far (p:=⟨gb242,3,none⟩) (Kd.R_far (p:=⟨gb242,2,none⟩) (Kd.R_far (p:=⟨gb242,1,none⟩) (Kd.R_far (p:=⟨gb242,0,none⟩) (Kd.R_types HO228.out BK242.out (by decide)) (fun _ hk => hk.2) (.slice Ao27 t233.length co27)) (fun _ hk => hk.2) (.slice Ao30 t236.length co30)) (fun _ hk => hk.2) (.int .i64 t239)) (fun _ hk => hk.2) (.int .i64 t240)) (fun _ hk => hk.2) (.int .i64 t241)) (fun _ h_ => h_.1))) hb);have n2_:=Am (Kd.R_below (by (with_reducible repeat (first|apply Kd.R_alloc|apply Kd.R_drewN|apply Kd.R_drew));exact (Kd.R_mono (Kd.R_far (p:=⟨gb242,4,none⟩) (Kd.R_far (p:=⟨gb242,3,none⟩) (Kd.R_far (p:=⟨gb242,2,none⟩) (Kd.R_far (p:=⟨gb242,1,none⟩) (Kd.R_far (p:=⟨gb242,0,none⟩) (Kd.R_types HO235.out BK242.out (by decide)) (fun _ hk => hk.2) (.slice Ao27 t233.length co27)) (fun _ hk => hk.2) (.slice Ao30 t236.length co30)) (fun _ hk => hk.2) (.int .i64 t239)) (fun _ hk => hk.2) (.int .i64 t240)) (fun _ hk => hk.2) (.int .i64 t241)) (fun _ h_ => h_.1))) hb);have n3_:=Am (Kd.R_below (by (with_reducible repeat (first|apply Kd.R_alloc|apply Kd.R_drewN|apply Kd.R_drew));exact (Kd.R_mono (Kd.R_far (p:=⟨gb242,4,none⟩) (Kd.R_far (p:=⟨gb242,3,none⟩) (Kd.R_far (p:=⟨gb242,2,none⟩) (Kd.R_far (p:=⟨gb242,1,none⟩) (Kd.R_far (p:=⟨gb242,0,none⟩) (Kd.R_types HO238.out BK242.out (by decide)) (fun _ hk => hk.2) (.slice Ao27 t233.length co27)) (fun _ hk => hk.2) (.slice Ao30 t236.length co30)) (fun _ hk => hk.2) (.int .i64 t239)) (fun _ hk => hk.2) (.int .i64 t240)) (fun _ hk => hk.2) (.int .i64 t241)) (fun _ h_ => h_.1))) hb);have n4_:=Am (blk_below (g:=gb221) (o:=.cells #[.slice A0_0 l0_0.length c0_0,.slice A0_1 l0_1.length c0_1,.int .i64 a0_2,.int .i64 a0_3,.int .i64 a0_4] 25 (0,0)) (by (with_reducible repeat (first|refine kN ?_ _|refine kD ?_|refine kA ?_ _));refine blk_far ?_ NB221_242.out _;(with_reducible repeat (first|refine kN ?_ _|refine kD ?_|refine kA ?_ _));refine blk_far ?_ NB221_242.out _;(with_reducible repeat (first|refine kN ?_ _|refine kD ?_|refine kA ?_ _));refine blk_far ?_ NB221_242.out _;(with_reducible repeat (first|refine kN ?_ _|refine kD ?_|refine kA ?_ _));refine blk_far ?_ NB221_242.out _;(with_reducible repeat (first|refine kN ?_ _|refine kD ?_|refine kA ?_ _));refine blk_far ?_ NB221_242.out _;(with_reducible repeat (first|refine kN ?_ _|refine kD ?_|refine kA ?_ _));exact BK221.out) hb);have n5_:=Am (blk_below (g:=gb242) (o:=.cells #[.slice Ao27 t233.length co27,.slice Ao30 t236.length co30,.int .i64 t239,.int .i64 t240,.int .i64 t241] 31 (0,0)) (by (with_reducible repeat (first|refine kN ?_ _|refine kD ?_|refine kA ?_ _));refine blk_put (cs:=#[.slice Ao27 t233.length co27,.slice Ao30 t236.length co30,.int .i64 t239,.int .i64 t240,.int .i64 0]) ?_ 4 _ rfl;(with_reducible repeat (first|refine kN ?_ _|refine kD ?_|refine kA ?_ _));refine blk_put (cs:=#[.slice Ao27 t233.length co27,.slice Ao30 t236.length co30,.int .i64 t239,.int .i64 0,.int .i64 0]) ?_ 3 _ rfl;(with_reducible repeat (first|refine kN ?_ _|refine kD ?_|refine kA ?_ _));refine blk_put (cs:=#[.slice Ao27 t233.length co27,.slice Ao30 t236.length co30,.int .i64 0,.int .i64 0,.int .i64 0]) ?_ 2 _ rfl;(with_reducible repeat (first|refine kN ?_ _|refine kD ?_|refine kA ?_ _));refine blk_put (cs:=#[.slice Ao27 t233.length co27,.slice none 0 0,.int .i64 0,.int .i64 0,.int .i64 0]) ?_ 1 _ rfl;(with_reducible repeat (first|refine kN ?_ _|refine kD ?_|refine kA ?_ _));refine blk_put (cs:=#[.slice none 0 0,.slice none 0 0,.int .i64 0,.int .i64 0,.int .i64 0]) ?_ 0 _ rfl;(with_reducible repeat (first|refine kN ?_ _|refine kD ?_|refine kA ?_ _));exact BK242.out) hb);have n6_:=Am (below_step (by repeat (first|(with_reducible first|exact HB.out|apply bA|apply bN|apply bD|refine bS ?_ GE221.out|refine bS ?_ GE242.out)|exact HB.out)) hb);clear HO225;clear HO228;clear HO235;clear HO238;clear BK221;clear BK242;clear HB;have HO225:=n0_;have HO228:=n1_;have HO235:=n2_;have HO238:=n3_;have BK221:=n4_;have BK242:=n5_;have HB:=n6_;clear n0_ n1_ n2_ n3_ n4_ n5_ n6_;(try clear hb);(try clear hb2);(try clear hk);(try clear hi)))
    have n0_:=Am (Kd.R_drew HO225.out)
    have n1_:=Am (Kd.R_drew HO228.out)
    have n2_:=Am (Kd.R_drew HO235.out)
    have n3_:=Am (Kd.R_drew HO238.out)
    have n4_:=Am (kD BK221.out)
    have n5_:=Am (kD BK242.out)
    have n6_:=Am (bD HB.out)
    clear HO225
    clear HO228
    clear HO235
    clear HO238
    clear BK221
    clear BK242
    clear HB
    have HO225:=n0_
    have HO228:=n1_
    have HO235:=n2_
    have HO238:=n3_
    have BK221:=n4_
    have BK242:=n5_
    have HB:=n6_
    clear n0_ n1_ n2_ n3_ n4_ n5_ n6_
    refine start_ (n:=5) (S:=fun w' => w'.cell? ⟨gb242,0,none⟩ = some (.slice Ao27 t233.length co27)∧w'.cell? ⟨gb242,1,none⟩ = some (.slice Ao30 t236.length co30)∧w'.cell? ⟨gb242,2,none⟩ = some (.int .i64 t239)∧w'.cell? ⟨gb242,3,none⟩ = some (.int .i64 t240)∧w'.cell? ⟨gb242,4,none⟩ = some (.int .i64 t241)∧w'.cell? ⟨gb221,0,none⟩ = some (.slice A0_0 l0_0.length c0_0)∧w'.cell? ⟨gb221,1,none⟩ = some (.slice A0_1 l0_1.length c0_1)∧w'.cell? ⟨gb221,2,none⟩ = some (.int .i64 a0_2)∧w'.cell? ⟨gb221,3,none⟩ = some (.int .i64 a0_3)∧w'.cell? ⟨gb221,4,none⟩ = some (.int .i64 a0_4)) (ds:=[]) #[false,false,false,false,false] (by kernel_rfl) rfl rfl ⟨(kC BK242.out 0).trans rfl,(kC BK242.out 1).trans rfl,(kC BK242.out 2).trans rfl,(kC BK242.out 3).trans rfl,(kC BK242.out 4).trans rfl,(kC BK221.out 0).trans rfl,(kC BK221.out 1).trans rfl,(kC BK221.out 2).trans rfl,(kC BK221.out 3).trans rfl,(kC BK221.out 4).trans rfl⟩ (fun hHeld => ?_)
    generalize w31.drew = w32 at HO225 HO228 HO235 HO238 BK221 BK242 HB hHeld ⊢
    refine take_ (i:=0) (N:=some 26) (v:=?_) (a':=?_) #[true,false,false,false,false] rfl rfl (by kernel_rfl) (fun _ _ _ h => h) (Or.inl ⟨by rfl,?_⟩) hHeld ?_ ?_
    rotate_left
    ·rintro w' ⟨s0,s1,s2,s3,s4,s5,s6,s7,s8,s9⟩
     go_simp
     with_reducible rfl
    rotate_left
    ·simp only [Act.put,pS]
     rfl
    refine take_ (i:=1) (N:=some 27) (v:=?_) (a':=?_) #[true,true,false,false,false] rfl rfl (by kernel_rfl) (fun _ _ _ h => h) (Or.inl ⟨by rfl,?_⟩) hHeld ?_ ?_
    rotate_left
    ·rintro w' ⟨s0,s1,s2,s3,s4,s5,s6,s7,s8,s9⟩
     go_simp
     with_reducible rfl
    rotate_left
    ·simp only [Act.put,pS]
     rfl
    refine one_ (i:=2) (N:=some 28) #[true,true,true,false,false] rfl rfl (by kernel_rfl) (by decide) (fun K hK => ?_)
    refine goes_ Try.func16 (by kernel_rfl) rfl #[.agg #[.slice A0_0 l0_0.length c0_0,.slice A0_1 l0_1.length c0_1,.int .i64 a0_2,.int .i64 a0_3,.int .i64 a0_4]] (by rfl) rfl rfl (by (try simp only [List.map_toArray,List.map_cons,List.map_nil]);first|done|rfl|(simp only [List.length_drop,List.length_take];rfl)) ?_
    with_reducible refine (laws_toProfile.calls k _ _ l0_0 _ _ l0_1 a0_2 a0_3 a0_4 t244 t247 t250 t251 t252 _ ?side1 ?side2 ?side3 ?side4 A13.out).mono ?_
    (case side1 => repeat (first|exact (Kd.C_below HR0_0.out HB.out)|(with_reducible refine Kd.C_alloc ?_ _)|(with_reducible refine Kd.C_drewN ?_ _)|(with_reducible refine Kd.C_drew ?_)))
    (case side2 => exact HC0_0.out)
    (case side3 => repeat (first|exact (Kd.C_below HR0_1.out HB.out)|(with_reducible refine Kd.C_alloc ?_ _)|(with_reducible refine Kd.C_drewN ?_ _)|(with_reducible refine Kd.C_drew ?_)))
    (case side4 => exact HC0_1.out)
    rintro e w33 ⟨v245,v248,rfl,ho0,ho1,hb⟩
    refine ⟨_,rfl,?_⟩
    have n0_:=Am (Kd.R_elder' (by (with_reducible repeat (first|apply Kd.R_alloc|apply Kd.R_drewN|apply Kd.R_drew));exact HO225.out) (Kd.R_base ho0) hb)
    have n1_:=Am (Kd.R_elder' (by (with_reducible repeat (first|apply Kd.R_alloc|apply Kd.R_drewN|apply Kd.R_drew));exact HO228.out) (Kd.R_base ho1) hb)
    have n2_:=Am (Kd.R_elder' (by (with_reducible repeat (first|apply Kd.R_alloc|apply Kd.R_drewN|apply Kd.R_drew));exact HO235.out) (Kd.R_base ho0) hb)
    have n3_:=Am (Kd.R_elder' (by (with_reducible repeat (first|apply Kd.R_alloc|apply Kd.R_drewN|apply Kd.R_drew));exact HO238.out) (Kd.R_base ho1) hb)
    have n4_:=Am (Kd.R_lower (Kd.R_new' (Kd.R_new' ho0 (Kd.R_lt (by (with_reducible repeat (first|apply Kd.R_alloc|apply Kd.R_drewN|apply Kd.R_drew));exact HO225.out))) (Kd.R_lt (by (with_reducible repeat (first|apply Kd.R_alloc|apply Kd.R_drewN|apply Kd.R_drew));exact HO235.out))) (below_size (by repeat (first|(with_reducible first|exact HB.out|apply bA|apply bN|apply bD|refine bS ?_ GE221.out|refine bS ?_ GE242.out)|exact HB.out))))
    have n5_:=Am (Kd.R_lower (Kd.R_new' (Kd.R_new' ho1 (Kd.R_lt (by (with_reducible repeat (first|apply Kd.R_alloc|apply Kd.R_drewN|apply Kd.R_drew));exact HO228.out))) (Kd.R_lt (by (with_reducible repeat (first|apply Kd.R_alloc|apply Kd.R_drewN|apply Kd.R_drew));exact HO238.out))) (below_size (by repeat (first|(with_reducible first|exact HB.out|apply bA|apply bN|apply bD|refine bS ?_ GE221.out|refine bS ?_ GE242.out)|exact HB.out))))
    have n6_:=Am (blk_below (g:=gb221) (o:=.cells #[.slice A0_0 l0_0.length c0_0,.slice A0_1 l0_1.length c0_1,.int .i64 a0_2,.int .i64 a0_3,.int .i64 a0_4] 25 (0,0)) (by (with_reducible repeat (first|refine kN ?_ _|refine kD ?_|refine kA ?_ _));exact BK221.out) hb)
    have n7_:=Am (blk_below (g:=gb242) (o:=.cells #[.slice Ao27 t233.length co27,.slice Ao30 t236.length co30,.int .i64 t239,.int .i64 t240,.int .i64 t241] 31 (0,0)) (by (with_reducible repeat (first|refine kN ?_ _|refine kD ?_|refine kA ?_ _));exact BK242.out) hb)
    have n8_:=Am (below_step (by repeat (first|(with_reducible first|exact HB.out|apply bA|apply bN|apply bD|refine bS ?_ GE221.out|refine bS ?_ GE242.out)|exact HB.out)) hb)
    clear HO225
    clear HO228
    clear HO235
    clear HO238
    clear BK221
    clear BK242
    clear HB
    have HO225:=n0_
    have HO228:=n1_
    have HO235:=n2_
    have HO238:=n3_
    have HO246:=n4_
    have HO249:=n5_
    have BK221:=n6_
    have BK242:=n7_
    have HB:=n8_
    clear n0_ n1_ n2_ n3_ n4_ n5_ n6_ n7_ n8_
    (try clear hb)
    (try clear hb2)
    (try clear hk)
    (try clear hi)
    (try clear ho0)
    (try clear ho1)
    obtain ⟨Ao34,co34,eo34⟩:=Kd.R_slice HO246.out
    (first|subst eo34|(injection eo34 with f1_ f2_ f3_;have f4_:=f1_.symm;have f5_:=f3_.symm;clear f1_ f2_ f3_;subst f4_;subst f5_))
    obtain ⟨Ao35,co35,eo35⟩:=Kd.R_slice HO249.out
    (first|subst eo35|(injection eo35 with f1_ f2_ f3_;have f4_:=f1_.symm;have f5_:=f3_.symm;clear f1_ f2_ f3_;subst f4_;subst f5_))
    refine hK.out _ _ ⟨(kC BK242.out 0).trans rfl,(kC BK242.out 1).trans rfl,(kC BK242.out 2).trans rfl,(kC BK242.out 3).trans rfl,(kC BK242.out 4).trans rfl,(kC BK221.out 0).trans rfl,(kC BK221.out 1).trans rfl,(kC BK221.out 2).trans rfl,(kC BK221.out 3).trans rfl,(kC BK221.out 4).trans rfl⟩ (fun hHeld => ?_)
    clear hK K
    refine norm_ (a':=?_) ?_ ?_
    rotate_left
    ·show Act.put _ (some 28) _ = _
     simp only [Act.put,pS]
     rfl
    refine one_ (i:=3) (N:=some 29) #[true,true,true,true,false] rfl rfl (by kernel_rfl) (by decide) (fun K hK => ?_)
    refine goes_ Try.func18 (by kernel_rfl) rfl #[.agg #[.slice Ao27 t233.length co27,.slice Ao30 t236.length co30,.int .i64 t239,.int .i64 t240,.int .i64 t241],.agg #[.slice Ao34 t244.length co34,.slice Ao35 t247.length co35,.int .i64 t250,.int .i64 t251,.int .i64 t252]] (by rfl) rfl rfl (by (try simp only [List.map_toArray,List.map_cons,List.map_nil]);first|done|rfl|(simp only [List.length_drop,List.length_take];rfl)) ?_
    with_reducible refine (laws_eqProfile.calls k _ _ t233 _ _ t236 t239 t240 t241 _ _ t244 _ _ t247 t250 t251 t252 true _ ?side1 ?side2 ?side3 ?side4 ?side5 ?side6 ?side7 ?side8 A14.out).mono ?_
    (case side1 => repeat (first|exact (Kd.R_reads' HO235.out).2.2|(with_reducible refine Kd.C_alloc ?_ _)|(with_reducible refine Kd.C_drewN ?_ _)|(with_reducible refine Kd.C_drew ?_)))
    (case side2 => exact (Kd.R_reads' HO235.out).2.1)
    (case side3 => repeat (first|exact (Kd.R_reads' HO238.out).2.2|(with_reducible refine Kd.C_alloc ?_ _)|(with_reducible refine Kd.C_drewN ?_ _)|(with_reducible refine Kd.C_drew ?_)))
    (case side4 => exact (Kd.R_reads' HO238.out).2.1)
    (case side5 => repeat (first|exact (Kd.R_reads' HO246.out).2.2|(with_reducible refine Kd.C_alloc ?_ _)|(with_reducible refine Kd.C_drewN ?_ _)|(with_reducible refine Kd.C_drew ?_)))
    (case side6 => exact (Kd.R_reads' HO246.out).2.1)
    (case side7 => repeat (first|exact (Kd.R_reads' HO249.out).2.2|(with_reducible refine Kd.C_alloc ?_ _)|(with_reducible refine Kd.C_drewN ?_ _)|(with_reducible refine Kd.C_drew ?_)))
    (case side8 => exact (Kd.R_reads' HO249.out).2.1)
    rintro e w36 ⟨rfl,hb⟩
    refine ⟨_,rfl,?_⟩
    have n0_:=Am (Kd.R_below (by (with_reducible repeat (first|apply Kd.R_alloc|apply Kd.R_drewN|apply Kd.R_drew));exact HO225.out) hb)
    have n1_:=Am (Kd.R_below (by (with_reducible repeat (first|apply Kd.R_alloc|apply Kd.R_drewN|apply Kd.R_drew));exact HO228.out) hb)
    have n2_:=Am (Kd.R_below (by (with_reducible repeat (first|apply Kd.R_alloc|apply Kd.R_drewN|apply Kd.R_drew));exact HO235.out) hb)
    have n3_:=Am (Kd.R_below (by (with_reducible repeat (first|apply Kd.R_alloc|apply Kd.R_drewN|apply Kd.R_drew));exact HO238.out) hb)
    have n4_:=Am (Kd.R_below (by (with_reducible repeat (first|apply Kd.R_alloc|apply Kd.R_drewN|apply Kd.R_drew));exact HO246.out) hb)
    have n5_:=Am (Kd.R_below (by (with_reducible repeat (first|apply Kd.R_alloc|apply Kd.R_drewN|apply Kd.R_drew));exact HO249.out) hb)
    have n6_:=Am (blk_below (g:=gb221) (o:=.cells #[.slice A0_0 l0_0.length c0_0,.slice A0_1 l0_1.length c0_1,.int .i64 a0_2,.int .i64 a0_3,.int .i64 a0_4] 25 (0,0)) (by (with_reducible repeat (first|refine kN ?_ _|refine kD ?_|refine kA ?_ _));exact BK221.out) hb)
    have n7_:=Am (blk_below (g:=gb242) (o:=.cells #[.slice Ao27 t233.length co27,.slice Ao30 t236.length co30,.int .i64 t239,.int .i64 t240,.int .i64 t241] 31 (0,0)) (by (with_reducible repeat (first|refine kN ?_ _|refine kD ?_|refine kA ?_ _));exact BK242.out) hb)
    have n8_:=Am (below_step (by repeat (first|(with_reducible first|exact HB.out|apply bA|apply bN|apply bD|refine bS ?_ GE221.out|refine bS ?_ GE242.out)|exact HB.out)) hb)
    clear HO225
    clear HO228
    clear HO235
    clear HO238
    clear HO246
    clear HO249
    clear BK221
    clear BK242
    clear HB
    have HO225:=n0_
    have HO228:=n1_
    have HO235:=n2_
    have HO238:=n3_
    have HO246:=n4_
    have HO249:=n5_
    have BK221:=n6_
    have BK242:=n7_
    have HB:=n8_
    clear n0_ n1_ n2_ n3_ n4_ n5_ n6_ n7_ n8_
    (try clear hb)
    (try clear hb2)
    (try clear hk)
    (try clear hi)
    refine hK.out _ _ ⟨(kC BK242.out 0).trans rfl,(kC BK242.out 1).trans rfl,(kC BK242.out 2).trans rfl,(kC BK242.out 3).trans rfl,(kC BK242.out 4).trans rfl,(kC BK221.out 0).trans rfl,(kC BK221.out 1).trans rfl,(kC BK221.out 2).trans rfl,(kC BK221.out 3).trans rfl,(kC BK221.out 4).trans rfl⟩ (fun hHeld => ?_)
    clear hK K
    refine norm_ (a':=?_) ?_ ?_
    rotate_left
    ·show Act.put _ (some 29) _ = _
     simp only [Act.put,pS]
     rfl
    refine pure_ (i:=4) (N:=some 30) (v:=?_) (a':=?_) #[true,true,true,true,true] rfl rfl (by kernel_rfl) (fun _ _ _ h => h) (Or.inl ⟨by rfl,?_⟩) ?_ ?_
    rotate_left
    ·intro w'
     go_simp
     with_reducible rfl
    rotate_left
    ·simp only [Act.put,pS]
     rfl
    refine done_ (by kernel_rfl) ?_
    try go_wp2
    go_ret
    exact ⟨by first|rfl|(simp [errW_none,errW_some] <;> rfl)|(simp [*,errW_none,errW_some] <;> rfl),by repeat (first|(with_reducible first|exact HB.out|apply bA|apply bN|apply bD|refine bS ?_ GE221.out|refine bS ?_ GE242.out)|exact HB.out)⟩
   ·replace c15:=Bool.eq_false_iff.mpr c15
    subst c15
    have H1 : (some false) = some r:=by rw [if_neg (show ¬ (false = true) by decide)] at H;exact H
    clear H
    have H:=H1
    clear H1
    exact absurd H (by rw [hrt.out];simp)
  ·rw [if_neg c12] at H
   have c12b0 : (t243 == t232) = false:=beq_eq_false_iff_ne.mpr c12
   have c12b1 : (t243 != t232) = true:=bne_iff_ne.mpr c12
   exact absurd H (by rw [hrt.out];simp)

end Go.Proofs.Ytgakkndbcilclaa.PA
