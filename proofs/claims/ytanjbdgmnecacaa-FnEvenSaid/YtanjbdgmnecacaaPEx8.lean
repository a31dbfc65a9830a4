-- Written by a program of this session (wip/print/myprint.py) over the kit's print, with contracts of its own; not a text of print.sh's.
import Derived.Test.YtanjbdgmnecacaaPEx0
namespace Go.Proofs.Ytanjbdgmnecacaa.PE
open Go.RowKit Go.Proofs.YtanjbdgmnecacaaW.PrintWords Go.Proofs.YtanjbdgmnecacaaW.PrintLast Go.Proofs.YtanjbdgmnecacaaW.PrintMore
attribute [local go_sem] max2_int min2_int max_two min_two   -- for this text's walks alone
set_option linter.unusedVariables false
set_option linter.unusedSimpArgs false

/-! ### spec_l2over: function 64 -/
def spec_l2over.l0 : Nat → Int → Int → Int → List (S45) → Int → Int → List (S39) → List (S45) → Int → Int → Int → Option (Int)
 | 0,_,_,_,_,_,_,_,_,_,_,_ => none
 | k + 1,x1,x2,x7,x11,x12,x13,x137000,x137001,x137002,x137003,x137004 => if x13 < x12 then (if 0 ≤ x13 then (if x13 < (x11.length : Int) then (if ((rd_T45 x11 x13).f0) ≤ x2 then (if x1 ≤ (wrap64 (((rd_T45 x11 x13).f1) + x137002)) then (if ((rd_T45 x11 x13).f2) < x7 then (spec_l2over.l0 k x1 x2 ((rd_T45 x11 x13).f2) x11 x12 (wrap64 (x13 + 1)) x137000 x137001 x137002 x137003 x137004) else (spec_l2over.l0 k x1 x2 x7 x11 x12 (wrap64 (x13 + 1)) x137000 x137001 x137002 x137003 x137004)) else (spec_l2over.l0 k x1 x2 x7 x11 x12 (wrap64 (x13 + 1)) x137000 x137001 x137002 x137003 x137004)) else (spec_l2over.l0 k x1 x2 x7 x11 x12 (wrap64 (x13 + 1)) x137000 x137001 x137002 x137003 x137004)) else (none)) else (none)) else (some x7)
def spec_l2over.f (k : Nat) (l0_0 : List (S39)) (l0_1 : List (S45)) (a0_2 : Int) (a0_3 : Int) (a0_4 : Int) (a1 : Int) (a2 : Int) : Option (Int):=spec_l2over.l0 k a1 a2 10000 l0_1 (l0_1.length : Int) 0 l0_0 l0_1 a0_2 a0_3 a0_4
theorem spec_l2over.mono_l : ∀ k,(∀ y0 y1 y2 y3 y4 y5 y6 y7 y8 y9 y10,LeO (spec_l2over.l0 k y0 y1 y2 y3 y4 y5 y6 y7 y8 y9 y10) (spec_l2over.l0 (k + 1) y0 y1 y2 y3 y4 y5 y6 y7 y8 y9 y10))
 | 0 => fun _ _ _ _ _ _ _ _ _ _ _ r h => by simp [spec_l2over.l0] at h
 | k + 1 => by
  have ih0:=spec_l2over.mono_l k
  ·intro y0 y1 y2 y3 y4 y5 y6 y7 y8 y9 y10
   unfold spec_l2over.l0
   repeat' first
   | (with_reducible exact ih0 _ _ _ _ _ _ _ _ _ _ _)
   | (with_reducible exact LeO.refl _)
   | (with_reducible exact LeO.none _)
   | (with_reducible refine LeO.ite ?_ ?_)
   | (with_reducible refine LeO.bind ?_ (fun _ => ?_))
   | exact ih0 _ _ _ _ _ _ _ _ _ _ _
   | exact LeO.none _
   | refine LeO.ite ?_ ?_
   | refine LeO.bind ?_ (fun _ => ?_)
theorem spec_l2over.mono : ∀ a0 a1 a2 a3 a4 a5 a6 k,LeO (spec_l2over.f k a0 a1 a2 a3 a4 a5 a6) (spec_l2over.f (k + 1) a0 a1 a2 a3 a4 a5 a6):=by
 intro a0 a1 a2 a3 a4 a5 a6 k
 have ih0:=spec_l2over.mono_l k
 unfold spec_l2over.f
 repeat' first
   | (with_reducible exact ih0 _ _ _ _ _ _ _ _ _ _ _)
   | (with_reducible exact LeO.refl _)
   | (with_reducible exact LeO.none _)
   | (with_reducible refine LeO.ite ?_ ?_)
   | (with_reducible refine LeO.bind ?_ (fun _ => ?_))
   | exact ih0 _ _ _ _ _ _ _ _ _ _ _
   | exact LeO.none _
   | refine LeO.ite ?_ ?_
   | refine LeO.bind ?_ (fun _ => ?_)
set_option maxHeartbeats 8000000 in
set_option maxRecDepth 100000 in
theorem spec_l2over.calls (k : Nat) (A0_0 : Option Addr) (c0_0 : Nat) (l0_0 : List (S39)) (A0_1 : Option Addr) (c0_1 : Nat) (l0_1 : List (S45)) (a0_2 : Int) (a0_3 : Int) (a0_4 : Int) (a1 : Int) (a2 : Int) (r : Int) (w : World) (hr0_0 : Kd.C k39 w A0_0 l0_0.length l0_0) (hc0_0 : l0_0.length ≤ c0_0) (hr0_1 : Kd.C k45 w A0_1 l0_1.length l0_1) (hc0_1 : l0_1.length ≤ c0_1) (h : spec_l2over.f k l0_0 l0_1 a0_2 a0_3 a0_4 a1 a2 = some r) :
  Calls Try.prog 64 #[.agg #[.slice A0_0 l0_0.length c0_0,.slice A0_1 l0_1.length c0_1,.int .i64 a0_2,.int .i64 a0_3,.int .i64 a0_4],.int .i64 a1,.int .i64 a2] w fun e w' => e = .returned (.int .i64 r)∧Below w.heap.size w w':=by
 have hu26:=Try.underlying26
 have hu45:=Try.underlying45
 have HR0_0:=Am hr0_0
 have HC0_0:=Am hc0_0
 clear hr0_0 hc0_0
 have HR0_1:=Am hr0_1
 have HC0_1:=Am hc0_1
 clear hr0_1 hc0_1
 have HB:=Am (Below.refl w.heap.size w)
 have H : (spec_l2over.l0 k a1 a2 10000 l0_1 (l0_1.length : Int) 0 l0_0 l0_1 a0_2 a0_3 a0_4) = some r:=h
 clear h
 have H':=Am H
 clear H
 go_enter Try.func64,Try.ntmps64
 go_wp2_with (first|((with_reducible refine gate_dst (N:=3) rfl ?_);refine box_event ?hg (N:=3) ?hd (cs:=#[.slice A0_0 l0_0.length c0_0,.slice A0_1 l0_1.length c0_1,.int .i64 a0_2,.int .i64 a0_3,.int .i64 a0_4]) (t:=26) ?hr ?_;(case hd => rfl);(case hg => rfl);(case hr => first|(go_simp;done)|(go_simp;rfl));intro gb136 hg w4 hbox hb;have n0_:=Am (below_step (by repeat (first|(with_reducible first|exact HB.out|apply bA|apply bN|apply bD)|exact HB.out)) hb);have n1_:=Am (hbox);have n2_:=Am ((by rw [hg];exact (below_size (by repeat (first|(with_reducible first|exact HB.out|apply bA|apply bN|apply bD)|exact HB.out))) : w.heap.size ≤ gb136));have n3_:=Am ((by rw [hg];exact (below_size (by repeat (first|(with_reducible first|exact HB.out|apply bA|apply bN|apply bD)|exact HB.out))) : w.heap.size ≤ gb136));clear HB;have HB:=n0_;have BK136:=n1_;have GW136:=n2_;have GE136:=n3_;clear n0_ n1_ n2_ n3_;clear hb hbox hg;have hcz5_0 : w4.cell? ⟨gb136,0,none⟩ = some (.slice A0_0 l0_0.length c0_0):=(kC BK136.out 0).trans rfl;have hcz5_1 : w4.cell? ⟨gb136,1,none⟩ = some (.slice A0_1 l0_1.length c0_1):=(kC BK136.out 1).trans rfl;have hcz5_2 : w4.cell? ⟨gb136,2,none⟩ = some (.int .i64 a0_2):=(kC BK136.out 2).trans rfl;have hcz5_3 : w4.cell? ⟨gb136,3,none⟩ = some (.int .i64 a0_3):=(kC BK136.out 3).trans rfl;have hcz5_4 : w4.cell? ⟨gb136,4,none⟩ = some (.int .i64 a0_4):=(kC BK136.out 4).trans rfl;have hfz5_0:=kF BK136.out 0;have hfz5_1:=kF BK136.out 1;have hfz5_2:=kF BK136.out 2;have hfz5_3:=kF BK136.out 3;have hfz5_4:=kF BK136.out 4))
 go_loopg [7,13] k (fun kq v7 v13 w' => ∃ (x7_1 : Int) (x13_1 : Int),v7 = .int .i64 x7_1∧v13 = .int .i64 x13_1∧As (spec_l2over.l0 kq a1 a2 x7_1 l0_1 (l0_1.length : Int) x13_1 l0_0 l0_1 a0_2 a0_3 a0_4 = some r)∧As (kq ≤ k)∧As (w'.heap[gb136]? = some (.cells #[(.slice A0_0 l0_0.length c0_0),(.slice A0_1 l0_1.length c0_1),.int .i64 a0_2,.int .i64 a0_3,.int .i64 a0_4] 26 (0,0)))∧As (Below w.heap.size w w'))
 case atStart => exact ⟨(10000),(0),(by first|rfl|(simp;done)|(simp [*];done)),(by first|rfl|(simp;done)|(simp [*];done)),H',⟨Nat.le_refl _⟩,⟨by (with_reducible repeat (first|refine kN ?_ _|refine kD ?_|refine kA ?_ _));exact BK136.out⟩,⟨by repeat (first|(with_reducible first|exact HB.out|apply bA|apply bN|apply bD|refine bS ?_ GE136.out)|exact HB.out)⟩⟩
 case round =>
  clear H'
  try clear p2
  try clear hcz5_0
  try clear hcz5_1
  try clear hcz5_2
  try clear hcz5_3
  try clear hcz5_4
  try clear hfz5_0
  try clear hfz5_1
  try clear hfz5_2
  try clear hfz5_3
  try clear hfz5_4
  obtain ⟨x7_1,x13_1,rfl,rfl,HA,HK1,BK136,HB⟩:=hrel
  cases gk with
  | zero => exact absurd HA.out (by simp [spec_l2over.l0])
  | succ k1 =>
   have H:=HA.out
   clear HA
   simp only [spec_l2over.l0] at H
   by_cases c6 : x13_1 < (l0_1.length : Int)
   ·rw [if_pos c6] at H
    have c6b0 : decide (x13_1 < (l0_1.length : Int)) = true:=decide_eq_true c6
    clear c6
    by_cases c7 : 0 ≤ x13_1
    ·rw [if_pos c7] at H
     have c7b0 : decide (0 ≤ x13_1) = true:=decide_eq_true c7
     clear c7
     by_cases c8 : x13_1 < (l0_1.length : Int)
     ·rw [if_pos c8] at H
      have c8b0 : decide (x13_1 < (l0_1.length : Int)) = true:=decide_eq_true c8
      clear c8
      by_cases c9 : ((rd_T45 l0_1 x13_1).f0) ≤ a2
      ·rw [if_pos c9] at H
       have c9b0 : decide (((rd_T45 l0_1 x13_1).f0) ≤ a2) = true:=decide_eq_true c9
       clear c9
       by_cases c10 : a1 ≤ (wrap64 (((rd_T45 l0_1 x13_1).f1) + a0_2))
       ·rw [if_pos c10] at H
        have c10b0 : decide (a1 ≤ (wrap64 (((rd_T45 l0_1 x13_1).f1) + a0_2))) = true:=decide_eq_true c10
        clear c10
        by_cases c11 : ((rd_T45 l0_1 x13_1).f2) < x7_1
        ·rw [if_pos c11] at H
         have c11b0 : decide (((rd_T45 l0_1 x13_1).f2) < x7_1) = true:=decide_eq_true c11
         clear c11
         have H':=Am H
         clear H
         have p137 : 0 ≤ (x13_1 : Int):=of_decide_eq_true (by first|(with_reducible assumption)|assumption)
         have q137 : x13_1 < (l0_1.length : Int):=of_decide_eq_true (by first|(with_reducible assumption)|assumption)
         obtain ⟨ad137,e137,hx137_0,hx137_1,hx137_2⟩:=at_T45 HR0_1.out x13_1 p137 q137
         cases e137
         replace hx137_0:=(HB.out.cell (World.block_lt_of_cell? w _ hx137_0)).trans hx137_0
         replace hx137_1:=(HB.out.cell (World.block_lt_of_cell? w _ hx137_1)).trans hx137_1
         replace hx137_2:=(HB.out.cell (World.block_lt_of_cell? w _ hx137_2)).trans hx137_2
         replace p137:=eq_true p137
         replace q137:=eq_true q137
         go_wp2_with (first|((with_reducible refine gate_dst (N:=9) rfl ?_);refine box_event ?hg (N:=9) ?hd (cs:=#[.int .i64 0,.int .i64 0,.int .i64 0]) (t:=45) ?hr ?_;(case hd => rfl);(case hg => rfl);(case hr => first|(go_simp;done)|(go_simp;rfl));intro gb138 hg w12 hbox hb;have n0_:=Am (blk_below (g:=gb136) (o:=.cells #[.slice A0_0 l0_0.length c0_0,.slice (some ad137) l0_1.length c0_1,.int .i64 a0_2,.int .i64 a0_3,.int .i64 a0_4] 26 (0,0)) (by (with_reducible repeat (first|refine kN ?_ _|refine kD ?_|refine kA ?_ _));exact BK136.out) hb);have n1_:=Am (below_step (by repeat (first|(with_reducible first|exact HB.out|apply bA|apply bN|apply bD|refine bS ?_ GE136.out)|exact HB.out)) hb);have n2_:=Am (hbox);have n3_:=Am ((by rw [hg];exact (below_size (by repeat (first|(with_reducible first|exact HB.out|apply bA|apply bN|apply bD|refine bS ?_ GE136.out)|exact HB.out))) : w.heap.size ≤ gb138));have n4_:=Am ((by rw [hg];exact (below_size (by repeat (first|(with_reducible first|exact HB.out|apply bA|apply bN|apply bD|refine bS ?_ GE136.out)|exact HB.out))) : w.heap.size ≤ gb138));have n5_:=Am ((by rw [hg];exact Nat.ne_of_lt (blk_lt (g:=gb136) (o:=.cells #[.slice A0_0 l0_0.length c0_0,.slice (some ad137) l0_1.length c0_1,.int .i64 a0_2,.int .i64 a0_3,.int .i64 a0_4] 26 (0,0)) (by (with_reducible repeat (first|refine kN ?_ _|refine kD ?_|refine kA ?_ _));exact BK136.out)) : gb136 ≠ gb138));have n6_:=Am ((by rw [hg];exact Nat.ne_of_gt (blk_lt (g:=gb136) (o:=.cells #[.slice A0_0 l0_0.length c0_0,.slice (some ad137) l0_1.length c0_1,.int .i64 a0_2,.int .i64 a0_3,.int .i64 a0_4] 26 (0,0)) (by (with_reducible repeat (first|refine kN ?_ _|refine kD ?_|refine kA ?_ _));exact BK136.out)) : gb138 ≠ gb136));clear BK136;clear HB;have BK136:=n0_;have HB:=n1_;have BK138:=n2_;have GW138:=n3_;have GE138:=n4_;have NB136_138:=n5_;have NB138_136:=n6_;clear n0_ n1_ n2_ n3_ n4_ n5_ n6_;clear hb hbox hg;have hnb13:=NB138_136.out;have hnc13:=NB136_138.out;have hcz14_0 : w12.cell? ⟨gb138,0,none⟩ = some (.int .i64 0):=(kC BK138.out 0).trans rfl;have hcz14_1 : w12.cell? ⟨gb138,1,none⟩ = some (.int .i64 0):=(kC BK138.out 1).trans rfl;have hcz14_2 : w12.cell? ⟨gb138,2,none⟩ = some (.int .i64 0):=(kC BK138.out 2).trans rfl;have hfz14_0:=kF BK138.out 0;have hfz14_1:=kF BK138.out 1;have hfz14_2:=kF BK138.out 2;have hcz15_0 : w12.cell? ⟨gb136,0,none⟩ = some (.slice A0_0 l0_0.length c0_0):=(kC BK136.out 0).trans rfl;have hcz15_1 : w12.cell? ⟨gb136,1,none⟩ = some (.slice (some ad137) l0_1.length c0_1):=(kC BK136.out 1).trans rfl;have hcz15_2 : w12.cell? ⟨gb136,2,none⟩ = some (.int .i64 a0_2):=(kC BK136.out 2).trans rfl;have hcz15_3 : w12.cell? ⟨gb136,3,none⟩ = some (.int .i64 a0_3):=(kC BK136.out 3).trans rfl;have hcz15_4 : w12.cell? ⟨gb136,4,none⟩ = some (.int .i64 a0_4):=(kC BK136.out 4).trans rfl;have hfz15_0:=kF BK136.out 0;have hfz15_1:=kF BK136.out 1;have hfz15_2:=kF BK136.out 2;have hfz15_3:=kF BK136.out 3;have hfz15_4:=kF BK136.out 4))
         go_roundg k1
         case measure => have:=HK1.out;omega
         case rel => exact ⟨((rd_T45 l0_1 x13_1).f2),(wrap64 (x13_1 + 1)),(by first|rfl|(simp;done)|(simp [*];done)),(by first|rfl|(simp;done)|(simp [*];done)),H',⟨by have:=HK1.out;omega⟩,⟨by (with_reducible repeat (first|refine kN ?_ _|refine kD ?_|refine kA ?_ _));refine blk_far ?_ NB136_138.out _;(with_reducible repeat (first|refine kN ?_ _|refine kD ?_|refine kA ?_ _));refine blk_far ?_ NB136_138.out _;(with_reducible repeat (first|refine kN ?_ _|refine kD ?_|refine kA ?_ _));refine blk_far ?_ NB136_138.out _;(with_reducible repeat (first|refine kN ?_ _|refine kD ?_|refine kA ?_ _));exact BK136.out⟩,⟨by repeat (first|(with_reducible first|exact HB.out|apply bA|apply bN|apply bD|refine bS ?_ GE136.out|refine bS ?_ GE138.out)|exact HB.out)⟩⟩
        ·rw [if_neg c11] at H
         have c11b0 : decide (((rd_T45 l0_1 x13_1).f2) < x7_1) = false:=decide_eq_false c11
         clear c11
         have H':=Am H
         clear H
         have p137 : 0 ≤ (x13_1 : Int):=of_decide_eq_true (by first|(with_reducible assumption)|assumption)
         have q137 : x13_1 < (l0_1.length : Int):=of_decide_eq_true (by first|(with_reducible assumption)|assumption)
         obtain ⟨ad137,e137,hx137_0,hx137_1,hx137_2⟩:=at_T45 HR0_1.out x13_1 p137 q137
         cases e137
         replace hx137_0:=(HB.out.cell (World.block_lt_of_cell? w _ hx137_0)).trans hx137_0
         replace hx137_1:=(HB.out.cell (World.block_lt_of_cell? w _ hx137_1)).trans hx137_1
         replace hx137_2:=(HB.out.cell (World.block_lt_of_cell? w _ hx137_2)).trans hx137_2
         replace p137:=eq_true p137
         replace q137:=eq_true q137
         go_wp2_with (first|((with_reducible refine gate_dst (N:=9) rfl ?_);refine box_event ?hg (N:=9) ?hd (cs:=#[.int .i64 0,.int .i64 0,.int .i64 0]) (t:=45) ?hr ?_;(case hd => rfl);(case hg => rfl);(case hr => first|(go_simp;done)|(go_simp;rfl));intro gb138 hg w16 hbox hb;have n0_:=Am (blk_below (g:=gb136) (o:=.cells #[.slice A0_0 l0_0.length c0_0,.slice (some ad137) l0_1.length c0_1,.int .i64 a0_2,.int .i64 a0_3,.int .i64 a0_4] 26 (0,0)) (by (with_reducible repeat (first|refine kN ?_ _|refine kD ?_|refine kA ?_ _));exact BK136.out) hb);have n1_:=Am (below_step (by repeat (first|(with_reducible first|exact HB.out|apply bA|apply bN|apply bD|refine bS ?_ GE136.out)|exact HB.out)) hb);have n2_:=Am (hbox);have n3_:=Am ((by rw [hg];exact (below_size (by repeat (first|(with_reducible first|exact HB.out|apply bA|apply bN|apply bD|refine bS ?_ GE136.out)|exact HB.out))) : w.heap.size ≤ gb138));have n4_:=Am ((by rw [hg];exact (below_size (by repeat (first|(with_reducible first|exact HB.out|apply bA|apply bN|apply bD|refine bS ?_ GE136.out)|exact HB.out))) : w.heap.size ≤ gb138));have n5_:=Am ((by rw [hg];exact Nat.ne_of_lt (blk_lt (g:=gb136) (o:=.cells #[.slice A0_0 l0_0.length c0_0,.slice (some ad137) l0_1.length c0_1,.int .i64 a0_2,.int .i64 a0_3,.int .i64 a0_4] 26 (0,0)) (by (with_reducible repeat (first|refine kN ?_ _|refine kD ?_|refine kA ?_ _));exact BK136.out)) : gb136 ≠ gb138));have n6_:=Am ((by rw [hg];exact Nat.ne_of_gt (blk_lt (g:=gb136) (o:=.cells #[.slice A0_0 l0_0.length c0_0,.slice (some ad137) l0_1.length c0_1,.int .i64 a0_2,.int .i64 a0_3,.int .i64 a0_4] 26 (0,0)) (by (with_reducible repeat (first|refine kN ?_ _|refine kD ?_|refine kA ?_ _));exact BK136.out)) : gb138 ≠ gb136));clear BK136;clear HB;have BK136:=n0_;have HB:=n1_;have BK138:=n2_;have GW138:=n3_;have GE138:=n4_;have NB136_138:=n5_;have NB138_136:=n6_;clear n0_ n1_ n2_ n3_ n4_ n5_ n6_;clear hb hbox hg;have hnb17:=NB138_136.out;have hnc17:=NB136_138.out;have hcz18_0 : w16.cell? ⟨gb138,0,none⟩ = some (.int .i64 0):=(kC BK138.out 0).trans rfl;have hcz18_1 : w16.cell? ⟨gb138,1,none⟩ = some (.int .i64 0):=(kC BK138.out 1).trans rfl;have hcz18_2 : w16.cell? ⟨gb138,2,none⟩ = some (.int .i64 0):=(kC BK138.out 2).trans rfl;have hfz18_0:=kF BK138.out 0;have hfz18_1:=kF BK138.out 1;have hfz18_2:=kF BK138.out 2;have hcz19_0 : w16.cell? ⟨gb136,0,none⟩ = some (.slice A0_0 l0_0.length c0_0):=(kC BK136.out 0).trans rfl;have hcz19_1 : w16.cell? ⟨gb136,1,none⟩ = some (.slice (some ad137) l0_1.length c0_1):=(kC BK136.out 1).trans rfl;have hcz19_2 : w16.cell? ⟨gb136,2,none⟩ = some (.int .i64 a0_2):=(kC BK136.out 2).trans rfl;have hcz19_3 : w16.cell? ⟨gb136,3,none⟩ = some (.int .i64 a0_3):=(kC BK136.out 3).trans rfl;have hcz19_4 : w16.cell? ⟨gb136,4,none⟩ = some (.int .i64 a0_4):=(kC BK136.out 4).trans rfl;have hfz19_0:=kF BK136.out 0;have hfz19_1:=kF BK136.out 1;have hfz19_2:=kF BK136.out 2;have hfz19_3:=kF BK136.out 3;have hfz19_4:=kF BK136.out 4))
         go_roundg k1
         case measure => have:=HK1.out;omega
         case rel => exact ⟨(x7_1),(wrap64 (x13_1 + 1)),(by first|rfl|(simp;done)|(simp [*];done)),(by first|rfl|(simp;done)|(simp [*];done)),H',⟨by have:=HK1.out;omega⟩,⟨by (with_reducible repeat (first|refine kN ?_ _|refine kD ?_|refine kA ?_ _));refine blk_far ?_ NB136_138.out _;(with_reducible repeat (first|refine kN ?_ _|refine kD ?_|refine kA ?_ _));refine blk_far ?_ NB136_138.out _;(with_reducible repeat (first|refine kN ?_ _|refine kD ?_|refine kA ?_ _));refine blk_far ?_ NB136_138.out _;(with_reducible repeat (first|refine kN ?_ _|refine kD ?_|refine kA ?_ _));exact BK136.out⟩,⟨by repeat (first|(with_reducible first|exact HB.out|apply bA|apply bN|apply bD|refine bS ?_ GE136.out|refine bS ?_ GE138.out)|exact HB.out)⟩⟩
       ·rw [if_neg c10] at H
        have c10b0 : decide (a1 ≤ (wrap64 (((rd_T45 l0_1 x13_1).f1) + a0_2))) = false:=decide_eq_false c10
        clear c10
        have H':=Am H
        clear H
        have p137 : 0 ≤ (x13_1 : Int):=of_decide_eq_true (by first|(with_reducible assumption)|assumption)
        have q137 : x13_1 < (l0_1.length : Int):=of_decide_eq_true (by first|(with_reducible assumption)|assumption)
        obtain ⟨ad137,e137,hx137_0,hx137_1,hx137_2⟩:=at_T45 HR0_1.out x13_1 p137 q137
        cases e137
        replace hx137_0:=(HB.out.cell (World.block_lt_of_cell? w _ hx137_0)).trans hx137_0
        replace hx137_1:=(HB.out.cell (World.block_lt_of_cell? w _ hx137_1)).trans hx137_1
        replace hx137_2:=(HB.out.cell (World.block_lt_of_cell? w _ hx137_2)).trans hx137_2
        replace p137:=eq_true p137
        replace q137:=eq_true q137
        go_wp2_with (first|((with_reducible refine gate_dst (N:=9) rfl ?_);refine box_event ?hg (N:=9) ?hd (cs:=#[.int .i64 0,.int .i64 0,.int .i64 0]) (t:=45) ?hr ?_;(case hd => rfl);(case hg => rfl);(case hr => first|(go_simp;done)|(go_simp;rfl));intro gb138 hg w20 hbox hb;have n0_:=Am (blk_below (g:=gb136) (o:=.cells #[.slice A0_0 l0_0.length c0_0,.slice (some ad137) l0_1.length c0_1,.int .i64 a0_2,.int .i64 a0_3,.int .i64 a0_4] 26 (0,0)) (by (with_reducible repeat (first|refine kN ?_ _|refine kD ?_|refine kA ?_ _));exact BK136.out) hb);have n1_:=Am (below_step (by repeat (first|(with_reducible first|exact HB.out|apply bA|apply bN|apply bD|refine bS ?_ GE136.out)|exact HB.out)) hb);have n2_:=Am (hbox);have n3_:=Am ((by rw [hg];exact (below_size (by repeat (first|(with_reducible first|exact HB.out|apply bA|apply bN|apply bD|refine bS ?_ GE136.out)|exact HB.out))) : w.heap.size ≤ gb138));have n4_:=Am ((by rw [hg];exact (below_size (by repeat (first|(with_reducible first|exact HB.out|apply bA|apply bN|apply bD|refine bS ?_ GE136.out)|exact HB.out))) : w.heap.size ≤ gb138));have n5_:=Am ((by rw [hg];exact Nat.ne_of_lt (blk_lt (g:=gb136) (o:=.cells #[.slice A0_0 l0_0.length c0_0,.slice (some ad137) l0_1.length c0_1,.int .i64 a0_2,.int .i64 a0_3,.int .i64 a0_4] 26 (0,0)) (by (with_reducible repeat (first|refine kN ?_ _|refine kD ?_|refine kA ?_ _));exact BK136.out)) : gb136 ≠ gb138));have n6_:=Am ((by rw [hg];exact Nat.ne_of_gt (blk_lt (g:=gb136) (o:=.cells #[.slice A0_0 l0_0.length c0_0,.slice (some ad137) l0_1.length c0_1,.int .i64 a0_2,.int .i64 a0_3,.int .i64 a0_4] 26 (0,0)) (by (with_reducible repeat (first|refine kN ?_ _|refine kD ?_|refine kA ?_ _));exact BK136.out)) : gb138 ≠ gb136));clear BK136;clear HB;have BK136:=n0_;have HB:=n1_;have BK138:=n2_;have GW138:=n3_;have GE138:=n4_;have NB136_138:=n5_;have NB138_136:=n6_;clear n0_ n1_ n2_ n3_ n4_ n5_ n6_;clear hb hbox hg;have hnb21:=NB138_136.out;have hnc21:=NB136_138.out;have hcz22_0 : w20.cell? ⟨gb138,0,none⟩ = some (.int .i64 0):=(kC BK138.out 0).trans rfl;have hcz22_1 : w20.cell? ⟨gb138,1,none⟩ = some (.int .i64 0):=(kC BK138.out 1).trans rfl;have hcz22_2 : w20.cell? ⟨gb138,2,none⟩ = some (.int .i64 0):=(kC BK138.out 2).trans rfl;have hfz22_0:=kF BK138.out 0;have hfz22_1:=kF BK138.out 1;have hfz22_2:=kF BK138.out 2;have hcz23_0 : w20.cell? ⟨gb136,0,none⟩ = some (.slice A0_0 l0_0.length c0_0):=(kC BK136.out 0).trans rfl;have hcz23_1 : w20.cell? ⟨gb136,1,none⟩ = some (.slice (some ad137) l0_1.length c0_1):=(kC BK136.out 1).trans rfl;have hcz23_2 : w20.cell? ⟨gb136,2,none⟩ = some (.int .i64 a0_2):=(kC BK136.out 2).trans rfl;have hcz23_3 : w20.cell? ⟨gb136,3,none⟩ = some (.int .i64 a0_3):=(kC BK136.out 3).trans rfl;have hcz23_4 : w20.cell? ⟨gb136,4,none⟩ = some (.int .i64 a0_4):=(kC BK136.out 4).trans rfl;have hfz23_0:=kF BK136.out 0;have hfz23_1:=kF BK136.out 1;have hfz23_2:=kF BK136.out 2;have hfz23_3:=kF BK136.out 3;have hfz23_4:=kF BK136.out 4))
        go_roundg k1
        case measure => have:=HK1.out;omega
        case rel => exact ⟨(x7_1),(wrap64 (x13_1 + 1)),(by first|rfl|(simp;done)|(simp [*];done)),(by first|rfl|(simp;done)|(simp [*];done)),H',⟨by have:=HK1.out;omega⟩,⟨by (with_reducible repeat (first|refine kN ?_ _|refine kD ?_|refine kA ?_ _));refine blk_far ?_ NB136_138.out _;(with_reducible repeat (first|refine kN ?_ _|refine kD ?_|refine kA ?_ _));refine blk_far ?_ NB136_138.out _;(with_reducible repeat (first|refine kN ?_ _|refine kD ?_|refine kA ?_ _));refine blk_far ?_ NB136_138.out _;(with_reducible repeat (first|refine kN ?_ _|refine kD ?_|refine kA ?_ _));exact BK136.out⟩,⟨by repeat (first|(with_reducible first|exact HB.out|apply bA|apply bN|apply bD|refine bS ?_ GE136.out|refine bS ?_ GE138.out)|exact HB.out)⟩⟩
      ·rw [if_neg c9] at H
       have c9b0 : decide (((rd_T45 l0_1 x13_1).f0) ≤ a2) = false:=decide_eq_false c9
       clear c9
       have H':=Am H
       clear H
       have p137 : 0 ≤ (x13_1 : Int):=of_decide_eq_true (by first|(with_reducible assumption)|assumption)
       have q137 : x13_1 < (l0_1.length : Int):=of_decide_eq_true (by first|(with_reducible assumption)|assumption)
       obtain ⟨ad137,e137,hx137_0,hx137_1,hx137_2⟩:=at_T45 HR0_1.out x13_1 p137 q137
       cases e137
       replace hx137_0:=(HB.out.cell (World.block_lt_of_cell? w _ hx137_0)).trans hx137_0
       replace hx137_1:=(HB.out.cell (World.block_lt_of_cell? w _ hx137_1)).trans hx137_1
       replace hx137_2:=(HB.out.cell (World.block_lt_of_cell? w _ hx137_2)).trans hx137_2
       replace p137:=eq_true p137
       replace q137:=eq_true q137
       go_wp2_with (first|((with_reducible refine gate_dst (N:=9) rfl ?_);refine box_event ?hg (N:=9) ?hd (cs:=#[.int .i64 0,.int .i64 0,.int .i64 0]) (t:=45) ?hr ?_;(case hd => rfl);(case hg => rfl);(case hr => first|(go_simp;done)|(go_simp;rfl));intro gb138 hg w24 hbox hb;have n0_:=Am (blk_below (g:=gb136) (o:=.cells #[.slice A0_0 l0_0.length c0_0,.slice (some ad137) l0_1.length c0_1,.int .i64 a0_2,.int .i64 a0_3,.int .i64 a0_4] 26 (0,0)) (by (with_reducible repeat (first|refine kN ?_ _|refine kD ?_|refine kA ?_ _));exact BK136.out) hb);have n1_:=Am (below_step (by repeat (first|(with_reducible first|exact HB.out|apply bA|apply bN|apply bD|refine bS ?_ GE136.out)|exact HB.out)) hb);have n2_:=Am (hbox);have n3_:=Am ((by rw [hg];exact (below_size (by repeat (first|(with_reducible first|exact HB.out|apply bA|apply bN|apply bD|refine bS ?_ GE136.out)|exact HB.out))) : w.heap.size ≤ gb138));have n4_:=Am ((by rw [hg];exact (below_size (by repeat (first|(with_reducible first|exact HB.out|apply bA|apply bN|apply bD|refine bS ?_ GE136.out)|exact HB.out))) : w.heap.size ≤ gb138));have n5_:=Am ((by rw [hg];exact Nat.ne_of_lt (blk_lt (g:=gb136) (o:=.cells #[.slice A0_0 l0_0.length c0_0,.slice (some ad137) l0_1.length c0_1,.int .i64 a0_2,.int .i64 a0_3,.int .i64 a0_4] 26 (0,0)) (by (with_reducible repeat (first|refine kN ?_ _|refine kD ?_|refine kA ?_ _));exact BK136.out)) : gb136 ≠ gb138));have n6_:=Am ((by rw [hg];exact Nat.ne_of_gt (blk_lt (g:=gb136) (o:=.cells #[.slice A0_0 l0_0.length c0_0,.slice (some ad137) l0_1.length c0_1,.int .i64 a0_2,.int .i64 a0_3,.int .i64 a0_4] 26 (0,0)) (by (with_reducible repeat (first|refine kN ?_ _|refine kD ?_|refine kA ?_ _));exact BK136.out)) : gb138 ≠ gb136));clear BK136;clear HB;have BK136:=n0_;have HB:=n1_;have BK138:=n2_;have GW138:=n3_;have GE138:=n4_;have NB136_138:=n5_;have NB138_136:=n6_;clear n0_ n1_ n2_ n3_ n4_ n5_ n6_;clear hb hbox hg;have hnb25:=NB138_136.out;have hnc25:=NB136_138.out;have hcz26_0 : w24.cell? ⟨gb138,0,none⟩ = some (.int .i64 0):=(kC BK138.out 0).trans rfl;have hcz26_1 : w24.cell? ⟨gb138,1,none⟩ = some (.int .i64 0):=(kC BK138.out 1).trans rfl;have hcz26_2 : w24.cell? ⟨gb138,2,none⟩ = some (.int .i64 0):=(kC BK138.out 2).trans rfl;have hfz26_0:=kF BK138.out 0;have hfz26_1:=kF BK138.out 1;have hfz26_2:=kF BK138.out 2))
       go_roundg k1
       case measure => have:=HK1.out;omega
       case rel => exact ⟨(x7_1),(wrap64 (x13_1 + 1)),(by first|rfl|(simp;done)|(simp [*];done)),(by first|rfl|(simp;done)|(simp [*];done)),H',⟨by have:=HK1.out;omega⟩,⟨by (with_reducible repeat (first|refine kN ?_ _|refine kD ?_|refine kA ?_ _));refine blk_far ?_ NB136_138.out _;(with_reducible repeat (first|refine kN ?_ _|refine kD ?_|refine kA ?_ _));refine blk_far ?_ NB136_138.out _;(with_reducible repeat (first|refine kN ?_ _|refine kD ?_|refine kA ?_ _));refine blk_far ?_ NB136_138.out _;(with_reducible repeat (first|refine kN ?_ _|refine kD ?_|refine kA ?_ _));exact BK136.out⟩,⟨by repeat (first|(with_reducible first|exact HB.out|apply bA|apply bN|apply bD|refine bS ?_ GE136.out|refine bS ?_ GE138.out)|exact HB.out)⟩⟩
     ·rw [if_neg c8] at H
      exact absurd H (by simp)
    ·rw [if_neg c7] at H
     exact absurd H (by simp)
   ·rw [if_neg c6] at H
    have c6b0 : decide (x13_1 < (l0_1.length : Int)) = false:=decide_eq_false c6
    clear c6
    obtain rfl:=Option.some.inj H
    go_wp2
    go_ret
    exact ⟨by first|rfl|(simp [errW_none,errW_some] <;> rfl)|(simp [*,errW_none,errW_some] <;> rfl),by repeat (first|(with_reducible first|exact HB.out|apply bA|apply bN|apply bD|refine bS ?_ GE136.out)|exact HB.out)⟩

end Go.Proofs.Ytanjbdgmnecacaa.PE
