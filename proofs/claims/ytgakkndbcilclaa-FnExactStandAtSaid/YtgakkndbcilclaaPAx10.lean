-- Written by a program of this session (wip/print/myprint.py) over the kit's print, with contracts of its own; not a text of print.sh's.
import Derived.Test.YtgakkndbcilclaaPAx0
import Derived.Test.YtgakkndbcilclaaPAx1
import Derived.Test.YtgakkndbcilclaaPAx2
import Derived.Test.YtgakkndbcilclaaPAx8
namespace Go.Proofs.Ytgakkndbcilclaa.PA
open Go.RowKit Go.Proofs.YtgakkndbcilclaaW.PrintWords Go.Proofs.YtgakkndbcilclaaW.PrintLast Go.Proofs.YtgakkndbcilclaaW.PrintMore
attribute [local go_sem] max2_int min2_int max_two min_two   -- for this text's walks alone
set_option linter.unusedVariables false
set_option linter.unusedSimpArgs false

/-! ### spec_l2rate: function 70 -/
def spec_l2rate.l0 : Nat → Int → Int → List (S71) → Int → Int → List (S71) → List (S75) → Int → Int → Int → Option (Int)
 | 0,_,_,_,_,_,_,_,_,_,_ => none
 | k + 1,x1,x5,x9,x10,x11,x255000,x255001,x255002,x255003,x255004 => if x11 < x10 then (if 0 ≤ x11 then (if x11 < (x9.length : Int) then (if x1 < (wrap64 (x5 + ((rd_T71 x9 x11).f0))) then (some ((rd_T71 x9 x11).f1)) else (spec_l2rate.l0 k x1 (wrap64 (x5 + ((rd_T71 x9 x11).f0))) x9 x10 (wrap64 (x11 + 1)) x255000 x255001 x255002 x255003 x255004)) else (none)) else (none)) else (if 0 ≤ (wrap64 ((x255000.length : Int) - 1)) then (if (wrap64 ((x255000.length : Int) - 1)) < (x255000.length : Int) then (some ((rd_T71 x255000 (wrap64 ((x255000.length : Int) - 1))).f1)) else (none)) else (none))
def spec_l2rate.f (k : Nat) (l0_0 : List (S71)) (l0_1 : List (S75)) (a0_2 : Int) (a0_3 : Int) (a0_4 : Int) (a1 : Int) : Option (Int):=spec_l2rate.l0 k a1 0 l0_0 (l0_0.length : Int) 0 l0_0 l0_1 a0_2 a0_3 a0_4
theorem spec_l2rate.mono_l : ∀ k,(∀ y0 y1 y2 y3 y4 y5 y6 y7 y8 y9,LeO (spec_l2rate.l0 k y0 y1 y2 y3 y4 y5 y6 y7 y8 y9) (spec_l2rate.l0 (k + 1) y0 y1 y2 y3 y4 y5 y6 y7 y8 y9))
 | 0 => fun _ _ _ _ _ _ _ _ _ _ r h => by simp [spec_l2rate.l0] at h
 | k + 1 => by
  have ih0:=spec_l2rate.mono_l k
  ·intro y0 y1 y2 y3 y4 y5 y6 y7 y8 y9
   unfold spec_l2rate.l0
   repeat' first
   | (with_reducible exact ih0 _ _ _ _ _ _ _ _ _ _)
   | (with_reducible exact LeO.refl _)
   | (with_reducible exact LeO.none _)
   | (with_reducible refine LeO.ite ?_ ?_)
   | (with_reducible refine LeO.bind ?_ (fun _ => ?_))
   | exact ih0 _ _ _ _ _ _ _ _ _ _
   | exact LeO.none _
   | refine LeO.ite ?_ ?_
   | refine LeO.bind ?_ (fun _ => ?_)
theorem spec_l2rate.mono : ∀ a0 a1 a2 a3 a4 a5 k,LeO (spec_l2rate.f k a0 a1 a2 a3 a4 a5) (spec_l2rate.f (k + 1) a0 a1 a2 a3 a4 a5):=by
 intro a0 a1 a2 a3 a4 a5 k
 have ih0:=spec_l2rate.mono_l k
 unfold spec_l2rate.f
 repeat' first
   | (with_reducible exact ih0 _ _ _ _ _ _ _ _ _ _)
   | (with_reducible exact LeO.refl _)
   | (with_reducible exact LeO.none _)
   | (with_reducible refine LeO.ite ?_ ?_)
   | (with_reducible refine LeO.bind ?_ (fun _ => ?_))
   | exact ih0 _ _ _ _ _ _ _ _ _ _
   | exact LeO.none _
   | refine LeO.ite ?_ ?_
   | refine LeO.bind ?_ (fun _ => ?_)
set_option maxHeartbeats 8000000 in
set_option maxRecDepth 100000 in
theorem spec_l2rate.calls (k : Nat) (A0_0 : Option Addr) (c0_0 : Nat) (l0_0 : List (S71)) (A0_1 : Option Addr) (c0_1 : Nat) (l0_1 : List (S75)) (a0_2 : Int) (a0_3 : Int) (a0_4 : Int) (a1 : Int) (r : Int) (w : World) (hr0_0 : Kd.C k71 w A0_0 l0_0.length l0_0) (hc0_0 : l0_0.length ≤ c0_0) (hr0_1 : Kd.C k75 w A0_1 l0_1.length l0_1) (hc0_1 : l0_1.length ≤ c0_1) (h : spec_l2rate.f k l0_0 l0_1 a0_2 a0_3 a0_4 a1 = some r) :
  Calls Try.prog 70 #[.agg #[.slice A0_0 l0_0.length c0_0,.slice A0_1 l0_1.length c0_1,.int .i64 a0_2,.int .i64 a0_3,.int .i64 a0_4],.int .i64 a1] w fun e w' => e = .returned (.int .i64 r)∧Below w.heap.size w w':=by
 have hu31:=Try.underlying31
 have hu71:=Try.underlying71
 have HR0_0:=Am hr0_0
 have HC0_0:=Am hc0_0
 clear hr0_0 hc0_0
 have HR0_1:=Am hr0_1
 have HC0_1:=Am hc0_1
 clear hr0_1 hc0_1
 have HB:=Am (Below.refl w.heap.size w)
 have H : (spec_l2rate.l0 k a1 0 l0_0 (l0_0.length : Int) 0 l0_0 l0_1 a0_2 a0_3 a0_4) = some r:=h
 clear h
 have H':=Am H
 clear H
 go_enter Try.func70,Try.ntmps70
 go_wp2_with (first|((with_reducible refine gate_dst (N:=2) rfl ?_);refine box_event ?hg (N:=2) ?hd (cs:=#[.slice A0_0 l0_0.length c0_0,.slice A0_1 l0_1.length c0_1,.int .i64 a0_2,.int .i64 a0_3,.int .i64 a0_4]) (t:=31) ?hr ?_;(case hd => rfl);(case hg => rfl);(case hr => first|(go_simp;done)|(go_simp;rfl));intro gb254 hg w3 hbox hb;have n0_:=Am (below_step (by repeat (first|(with_reducible first|exact HB.out|apply bA|apply bN|apply bD)|exact HB.out)) hb);have n1_:=Am (hbox);have n2_:=Am ((by rw [hg];exact (below_size (by repeat (first|(with_reducible first|exact HB.out|apply bA|apply bN|apply bD)|exact HB.out))) : w.heap.size ≤ gb254));have n3_:=Am ((by rw [hg];exact (below_size (by repeat (first|(with_reducible first|exact HB.out|apply bA|apply bN|apply bD)|exact HB.out))) : w.heap.size ≤ gb254));clear HB;have HB:=n0_;have BK254:=n1_;have GW254:=n2_;have GE254:=n3_;clear n0_ n1_ n2_ n3_;clear hb hbox hg;have hcz4_0 : w3.cell? ⟨gb254,0,none⟩ = some (.slice A0_0 l0_0.length c0_0):=(kC BK254.out 0).trans rfl;have hcz4_1 : w3.cell? ⟨gb254,1,none⟩ = some (.slice A0_1 l0_1.length c0_1):=(kC BK254.out 1).trans rfl;have hcz4_2 : w3.cell? ⟨gb254,2,none⟩ = some (.int .i64 a0_2):=(kC BK254.out 2).trans rfl;have hcz4_3 : w3.cell? ⟨gb254,3,none⟩ = some (.int .i64 a0_3):=(kC BK254.out 3).trans rfl;have hcz4_4 : w3.cell? ⟨gb254,4,none⟩ = some (.int .i64 a0_4):=(kC BK254.out 4).trans rfl;have hfz4_0:=kF BK254.out 0;have hfz4_1:=kF BK254.out 1;have hfz4_2:=kF BK254.out 2;have hfz4_3:=kF BK254.out 3;have hfz4_4:=kF BK254.out 4))
 go_loopg [5,11] k (fun kq v5 v11 w' => ∃ (x5_1 : Int) (x11_1 : Int),v5 = .int .i64 x5_1∧v11 = .int .i64 x11_1∧As (spec_l2rate.l0 kq a1 x5_1 l0_0 (l0_0.length : Int) x11_1 l0_0 l0_1 a0_2 a0_3 a0_4 = some r)∧As (kq ≤ k)∧As (w'.heap[gb254]? = some (.cells #[(.slice A0_0 l0_0.length c0_0),(.slice A0_1 l0_1.length c0_1),.int .i64 a0_2,.int .i64 a0_3,.int .i64 a0_4] 31 (0,0)))∧As (Below w.heap.size w w'))
 case atStart => exact ⟨(0),(0),(by first|rfl|(simp;done)|(simp [*];done)),(by first|rfl|(simp;done)|(simp [*];done)),H',⟨Nat.le_refl _⟩,⟨by (with_reducible repeat (first|refine kN ?_ _|refine kD ?_|refine kA ?_ _));exact BK254.out⟩,⟨by repeat (first|(with_reducible first|exact HB.out|apply bA|apply bN|apply bD|refine bS ?_ GE254.out)|exact HB.out)⟩⟩
 case round =>
  clear H'
  try clear p2
  try clear hcz4_0
  try clear hcz4_1
  try clear hcz4_2
  try clear hcz4_3
  try clear hcz4_4
  try clear hfz4_0
  try clear hfz4_1
  try clear hfz4_2
  try clear hfz4_3
  try clear hfz4_4
  obtain ⟨x5_1,x11_1,rfl,rfl,HA,HK1,BK254,HB⟩:=hrel
  cases gk with
  | zero => exact absurd HA.out (by simp [spec_l2rate.l0])
  | succ k1 =>
   have H:=HA.out
   clear HA
   simp only [spec_l2rate.l0] at H
   by_cases c5 : x11_1 < (l0_0.length : Int)
   ·rw [if_pos c5] at H
    have c5b0 : decide (x11_1 < (l0_0.length : Int)) = true:=decide_eq_true c5
    clear c5
    by_cases c6 : 0 ≤ x11_1
    ·rw [if_pos c6] at H
     have c6b0 : decide (0 ≤ x11_1) = true:=decide_eq_true c6
     clear c6
     by_cases c7 : x11_1 < (l0_0.length : Int)
     ·rw [if_pos c7] at H
      have c7b0 : decide (x11_1 < (l0_0.length : Int)) = true:=decide_eq_true c7
      clear c7
      by_cases c8 : a1 < (wrap64 (x5_1 + ((rd_T71 l0_0 x11_1).f0)))
      ·rw [if_pos c8] at H
       have c8b0 : decide (a1 < (wrap64 (x5_1 + ((rd_T71 l0_0 x11_1).f0)))) = true:=decide_eq_true c8
       clear c8
       obtain rfl:=Option.some.inj H
       have p255 : 0 ≤ (x11_1 : Int):=of_decide_eq_true (by first|(with_reducible assumption)|assumption)
       have q255 : x11_1 < (l0_0.length : Int):=of_decide_eq_true (by first|(with_reducible assumption)|assumption)
       obtain ⟨ad255,e255,hx255_0,hx255_1⟩:=at_T71 HR0_0.out x11_1 p255 q255
       cases e255
       replace hx255_0:=(HB.out.cell (World.block_lt_of_cell? w _ hx255_0)).trans hx255_0
       replace hx255_1:=(HB.out.cell (World.block_lt_of_cell? w _ hx255_1)).trans hx255_1
       replace p255:=eq_true p255
       replace q255:=eq_true q255
       go_wp2_with (first|((with_reducible refine gate_dst (N:=7) rfl ?_);refine box_event ?hg (N:=7) ?hd (cs:=#[.int .i64 0,.int .i64 0]) (t:=71) ?hr ?_;(case hd => rfl);(case hg => rfl);(case hr => first|(go_simp;done)|(go_simp;rfl));intro gb256 hg w9 hbox hb;have n0_:=Am (blk_below (g:=gb254) (o:=.cells #[.slice (some ad255) l0_0.length c0_0,.slice A0_1 l0_1.length c0_1,.int .i64 a0_2,.int .i64 a0_3,.int .i64 a0_4] 31 (0,0)) (by (with_reducible repeat (first|refine kN ?_ _|refine kD ?_|refine kA ?_ _));exact BK254.out) hb);have n1_:=Am (below_step (by repeat (first|(with_reducible first|exact HB.out|apply bA|apply bN|apply bD|refine bS ?_ GE254.out)|exact HB.out)) hb);have n2_:=Am (hbox);have n3_:=Am ((by rw [hg];exact (below_size (by repeat (first|(with_reducible first|exact HB.out|apply bA|apply bN|apply bD|refine bS ?_ GE254.out)|exact HB.out))) : w.heap.size ≤ gb256));have n4_:=Am ((by rw [hg];exact (below_size (by repeat (first|(with_reducible first|exact HB.out|apply bA|apply bN|apply bD|refine bS ?_ GE254.out)|exact HB.out))) : w.heap.size ≤ gb256));have n5_:=Am ((by rw [hg];exact Nat.ne_of_lt (blk_lt (g:=gb254) (o:=.cells #[.slice (some ad255) l0_0.length c0_0,.slice A0_1 l0_1.length c0_1,.int .i64 a0_2,.int .i64 a0_3,.int .i64 a0_4] 31 (0,0)) (by (with_reducible repeat (first|refine kN ?_ _|refine kD ?_|refine kA ?_ _));exact BK254.out)) : gb254 ≠ gb256));have n6_:=Am ((by rw [hg];exact Nat.ne_of_gt (blk_lt (g:=gb254) (o:=.cells #[.slice (some ad255) l0_0.length c0_0,.slice A0_1 l0_1.length c0_1,.int .i64 a0_2,.int .i64 a0_3,.int .i64 a0_4] 31 (0,0)) (by (with_reducible repeat (first|refine kN ?_ _|refine kD ?_|refine kA ?_ _));exact BK254.out)) : gb256 ≠ gb254));clear BK254;clear HB;have BK254:=n0_;have HB:=n1_;have BK256:=n2_;have GW256:=n3_;have GE256:=n4_;have NB254_256:=n5_;have NB256_254:=n6_;clear n0_ n1_ n2_ n3_ n4_ n5_ n6_;clear hb hbox hg;have hnb10:=NB256_254.out;have hnc10:=NB254_256.out;have hcz11_0 : w9.cell? ⟨gb256,0,none⟩ = some (.int .i64 0):=(kC BK256.out 0).trans rfl;have hcz11_1 : w9.cell? ⟨gb256,1,none⟩ = some (.int .i64 0):=(kC BK256.out 1).trans rfl;have hfz11_0:=kF BK256.out 0;have hfz11_1:=kF BK256.out 1))
       go_ret
       exact ⟨by first|rfl|(simp [errW_none,errW_some] <;> rfl)|(simp [*,errW_none,errW_some] <;> rfl),by repeat (first|(with_reducible first|exact HB.out|apply bA|apply bN|apply bD|refine bS ?_ GE254.out|refine bS ?_ GE256.out)|exact HB.out)⟩
      ·rw [if_neg c8] at H
       have c8b0 : decide (a1 < (wrap64 (x5_1 + ((rd_T71 l0_0 x11_1).f0)))) = false:=decide_eq_false c8
       clear c8
       have H':=Am H
       clear H
       have p255 : 0 ≤ (x11_1 : Int):=of_decide_eq_true (by first|(with_reducible assumption)|assumption)
       have q255 : x11_1 < (l0_0.length : Int):=of_decide_eq_true (by first|(with_reducible assumption)|assumption)
       obtain ⟨ad255,e255,hx255_0,hx255_1⟩:=at_T71 HR0_0.out x11_1 p255 q255
       cases e255
       replace hx255_0:=(HB.out.cell (World.block_lt_of_cell? w _ hx255_0)).trans hx255_0
       replace hx255_1:=(HB.out.cell (World.block_lt_of_cell? w _ hx255_1)).trans hx255_1
       replace p255:=eq_true p255
       replace q255:=eq_true q255
       go_wp2_with (first|((with_reducible refine gate_dst (N:=7) rfl ?_);refine box_event ?hg (N:=7) ?hd (cs:=#[.int .i64 0,.int .i64 0]) (t:=71) ?hr ?_;(case hd => rfl);(case hg => rfl);(case hr => first|(go_simp;done)|(go_simp;rfl));intro gb256 hg w12 hbox hb;have n0_:=Am (blk_below (g:=gb254) (o:=.cells #[.slice (some ad255) l0_0.length c0_0,.slice A0_1 l0_1.length c0_1,.int .i64 a0_2,.int .i64 a0_3,.int .i64 a0_4] 31 (0,0)) (by (with_reducible repeat (first|refine kN ?_ _|refine kD ?_|refine kA ?_ _));exact BK254.out) hb);have n1_:=Am (below_step (by repeat (first|(with_reducible first|exact HB.out|apply bA|apply bN|apply bD|refine bS ?_ GE254.out)|exact HB.out)) hb);have n2_:=Am (hbox);have n3_:=Am ((by rw [hg];exact (below_size (by repeat (first|(with_reducible first|exact HB.out|apply bA|apply bN|apply bD|refine bS ?_ GE254.out)|exact HB.out))) : w.heap.size ≤ gb256));have n4_:=Am ((by rw [hg];exact (below_size (by repeat (first|(with_reducible first|exact HB.out|apply bA|apply bN|apply bD|refine bS ?_ GE254.out)|exact HB.out))) : w.heap.size ≤ gb256));have n5_:=Am ((by rw [hg];exact Nat.ne_of_lt (blk_lt (g:=gb254) (o:=.cells #[.slice (some ad255) l0_0.length c0_0,.slice A0_1 l0_1.length c0_1,.int .i64 a0_2,.int .i64 a0_3,.int .i64 a0_4] 31 (0,0)) (by (with_reducible repeat (first|refine kN ?_ _|refine kD ?_|refine kA ?_ _));exact BK254.out)) : gb254 ≠ gb256));have n6_:=Am ((by rw [hg];exact Nat.ne_of_gt (blk_lt (g:=gb254) (o:=.cells #[.slice (some ad255) l0_0.length c0_0,.slice A0_1 l0_1.length c0_1,.int .i64 a0_2,.int .i64 a0_3,.int .i64 a0_4] 31 (0,0)) (by (with_reducible repeat (first|refine kN ?_ _|refine kD ?_|refine kA ?_ _));exact BK254.out)) : gb256 ≠ gb254));clear BK254;clear HB;have BK254:=n0_;have HB:=n1_;have BK256:=n2_;have GW256:=n3_;have GE256:=n4_;have NB254_256:=n5_;have NB256_254:=n6_;clear n0_ n1_ n2_ n3_ n4_ n5_ n6_;clear hb hbox hg;have hnb13:=NB256_254.out;have hnc13:=NB254_256.out;have hcz14_0 : w12.cell? ⟨gb256,0,none⟩ = some (.int .i64 0):=(kC BK256.out 0).trans rfl;have hcz14_1 : w12.cell? ⟨gb256,1,none⟩ = some (.int .i64 0):=(kC BK256.out 1).trans rfl;have hfz14_0:=kF BK256.out 0;have hfz14_1:=kF BK256.out 1))
       go_roundg k1
       case measure => have:=HK1.out;omega
       case rel => exact ⟨(wrap64 (x5_1 + ((rd_T71 l0_0 x11_1).f0))),(wrap64 (x11_1 + 1)),(by first|rfl|(simp;done)|(simp [*];done)),(by first|rfl|(simp;done)|(simp [*];done)),H',⟨by have:=HK1.out;omega⟩,⟨by (with_reducible repeat (first|refine kN ?_ _|refine kD ?_|refine kA ?_ _));refine blk_far ?_ NB254_256.out _;(with_reducible repeat (first|refine kN ?_ _|refine kD ?_|refine kA ?_ _));refine blk_far ?_ NB254_256.out _;(with_reducible repeat (first|refine kN ?_ _|refine kD ?_|refine kA ?_ _));exact BK254.out⟩,⟨by repeat (first|(with_reducible first|exact HB.out|apply bA|apply bN|apply bD|refine bS ?_ GE254.out|refine bS ?_ GE256.out)|exact HB.out)⟩⟩
     ·rw [if_neg c7] at H
      exact absurd H (by simp)
    ·rw [if_neg c6] at H
     exact absurd H (by simp)
   ·rw [if_neg c5] at H
    have c5b0 : decide (x11_1 < (l0_0.length : Int)) = false:=decide_eq_false c5
    clear c5
    obtain ⟨ji15,hji15⟩ : ∃ j_ : Int,(wrap64 ((l0_0.length : Int) - 1)) = j_:=⟨_,rfl⟩
    replace H : (if 0 ≤ (ji15) then (if (ji15) < (l0_0.length : Int) then (some ((rd_T71 l0_0 (ji15)).f1)) else (none)) else (none)) = some r:=by first|(rw [hji15] at H;exact H)|(simp only [hji15] at H ⊢;exact H)
    have hji15w : (IntKind.i64.wrap ((l0_0.length : Int) - 1)) = ji15:=(i64_w _).trans hji15
    by_cases c16 : 0 ≤ (ji15)
    ·rw [if_pos c16] at H
     have c16b0 : decide (0 ≤ (ji15)) = true:=decide_eq_true c16
     clear c16
     by_cases c17 : (ji15) < (l0_0.length : Int)
     ·rw [if_pos c17] at H
      have c17b0 : decide ((ji15) < (l0_0.length : Int)) = true:=decide_eq_true c17
      clear c17
      obtain rfl:=Option.some.inj H
      have hcz18_0 : wr.cell? ⟨gb254,0,none⟩ = some (.slice A0_0 l0_0.length c0_0):=(kC BK254.out 0).trans rfl
      have hcz18_1 : wr.cell? ⟨gb254,1,none⟩ = some (.slice A0_1 l0_1.length c0_1):=(kC BK254.out 1).trans rfl
      have hcz18_2 : wr.cell? ⟨gb254,2,none⟩ = some (.int .i64 a0_2):=(kC BK254.out 2).trans rfl
      have hcz18_3 : wr.cell? ⟨gb254,3,none⟩ = some (.int .i64 a0_3):=(kC BK254.out 3).trans rfl
      have hcz18_4 : wr.cell? ⟨gb254,4,none⟩ = some (.int .i64 a0_4):=(kC BK254.out 4).trans rfl
      have hfz18_0:=kF BK254.out 0
      have hfz18_1:=kF BK254.out 1
      have hfz18_2:=kF BK254.out 2
      have hfz18_3:=kF BK254.out 3
      have hfz18_4:=kF BK254.out 4
      have p257 : 0 ≤ ((ji15) : Int):=of_decide_eq_true (by first|(with_reducible assumption)|assumption)
      have q257 : (ji15) < (l0_0.length : Int):=of_decide_eq_true (by first|(with_reducible assumption)|assumption)
      obtain ⟨ad257,e257,hx257_0,hx257_1⟩:=at_T71 HR0_0.out (ji15) p257 q257
      cases e257
      replace hx257_0:=(HB.out.cell (World.block_lt_of_cell? w _ hx257_0)).trans hx257_0
      replace hx257_1:=(HB.out.cell (World.block_lt_of_cell? w _ hx257_1)).trans hx257_1
      replace p257:=eq_true p257
      replace q257:=eq_true q257
      go_wp2
      go_ret
      exact ⟨by first|rfl|(simp [errW_none,errW_some] <;> rfl)|(simp only [← hji15];first|rfl|(simp [errW_none,errW_some] <;> rfl))|(simp [*,errW_none,errW_some] <;> rfl),by repeat (first|(with_reducible first|exact HB.out|apply bA|apply bN|apply bD|refine bS ?_ GE254.out)|exact HB.out)⟩
     ·rw [if_neg c17] at H
      exact absurd H (by simp)
    ·rw [if_neg c16] at H
     exact absurd H (by simp)

/-! ### spec_BrakeAt: function 21 -/
def spec_BrakeAt.f (k : Nat) (l0_0 : List (S71)) (l0_1 : List (S75)) (a0_2 : Int) (a0_3 : Int) (a0_4 : Int) (a1 : Int) : Option (Int):=(spec_ProfileOk.f k l0_0 l0_1 a0_2 a0_3 a0_4).bind fun t259 => (if t259 = 0 then ((spec_l2total.f k l0_0 l0_1 a0_2 a0_3 a0_4).bind fun t260 => ((spec_l1in.f a1 0 t260).bind fun t261 => (if t261 = true then ((spec_l2rate.f k l0_0 l0_1 a0_2 a0_3 a0_4 a1).bind fun t262 => (some t262)) else (some (-1))))) else (some (-1)))
theorem spec_BrakeAt.mono : ∀ a0 a1 a2 a3 a4 a5 k,LeO (spec_BrakeAt.f k a0 a1 a2 a3 a4 a5) (spec_BrakeAt.f (k + 1) a0 a1 a2 a3 a4 a5):=by
 intro a0 a1 a2 a3 a4 a5 k
 unfold spec_BrakeAt.f
 repeat' first
   | (with_reducible exact spec_ProfileOk.mono _ _ _ _ _ _)
   | (with_reducible exact spec_l2rate.mono _ _ _ _ _ _ _)
   | (with_reducible exact spec_l2total.mono _ _ _ _ _ _)
   | (with_reducible exact LeO.refl _)
   | (with_reducible exact LeO.none _)
   | (with_reducible refine LeO.ite ?_ ?_)
   | (with_reducible refine LeO.bind ?_ (fun _ => ?_))
   | exact spec_ProfileOk.mono _ _ _ _ _ _
   | exact spec_l2rate.mono _ _ _ _ _ _ _
   | exact spec_l2total.mono _ _ _ _ _ _
   | exact LeO.none _
   | refine LeO.ite ?_ ?_
   | refine LeO.bind ?_ (fun _ => ?_)
set_option maxHeartbeats 8000000 in
set_option maxRecDepth 100000 in
theorem spec_BrakeAt.calls (k : Nat) (A0_0 : Option Addr) (c0_0 : Nat) (l0_0 : List (S71)) (A0_1 : Option Addr) (c0_1 : Nat) (l0_1 : List (S75)) (a0_2 : Int) (a0_3 : Int) (a0_4 : Int) (a1 : Int) (r : Int) (w : World) (hr0_0 : Kd.C k71 w A0_0 l0_0.length l0_0) (hc0_0 : l0_0.length ≤ c0_0) (hr0_1 : Kd.C k75 w A0_1 l0_1.length l0_1) (hc0_1 : l0_1.length ≤ c0_1) (h : spec_BrakeAt.f k l0_0 l0_1 a0_2 a0_3 a0_4 a1 = some r) :
  Calls Try.prog 21 #[.agg #[.slice A0_0 l0_0.length c0_0,.slice A0_1 l0_1.length c0_1,.int .i64 a0_2,.int .i64 a0_3,.int .i64 a0_4],.int .i64 a1] w fun e w' => e = .returned (.int .i64 r)∧Below w.heap.size w w':=by
 have hu31:=Try.underlying31
 have HR0_0:=Am hr0_0
 have HC0_0:=Am hc0_0
 clear hr0_0 hc0_0
 have HR0_1:=Am hr0_1
 have HC0_1:=Am hc0_1
 clear hr0_1 hc0_1
 have HB:=Am (Below.refl w.heap.size w)
 have H : ((spec_ProfileOk.f k l0_0 l0_1 a0_2 a0_3 a0_4).bind fun t259 => (if t259 = 0 then ((spec_l2total.f k l0_0 l0_1 a0_2 a0_3 a0_4).bind fun t260 => ((spec_l1in.f a1 0 t260).bind fun t261 => (if t261 = true then ((spec_l2rate.f k l0_0 l0_1 a0_2 a0_3 a0_4 a1).bind fun t262 => (some t262)) else (some (-1))))) else (some (-1)))) = some r:=h
 clear h
 replace H:=Option.bind_eq_some_iff.mp H
 obtain ⟨t259,A30,H⟩:=H
 replace H : (if t259 = 0 then ((spec_l2total.f k l0_0 l0_1 a0_2 a0_3 a0_4).bind fun t260 => ((spec_l1in.f a1 0 t260).bind fun t261 => (if t261 = true then ((spec_l2rate.f k l0_0 l0_1 a0_2 a0_3 a0_4 a1).bind fun t262 => (some t262)) else (some (-1))))) else (some (-1))) = some r:=H
 have A3:=Am A30
 clear A30
 by_cases c4 : t259 = 0
 ·rw [if_pos c4] at H
  have c4b0 : (t259 == 0) = true:=beq_iff_eq.mpr c4
  have c4b1 : (t259 != 0) = false:=bne_eq_false_iff_eq.mpr c4
  clear c4
  replace H:=Option.bind_eq_some_iff.mp H
  obtain ⟨t260,A50,H⟩:=H
  replace H : ((spec_l1in.f a1 0 t260).bind fun t261 => (if t261 = true then ((spec_l2rate.f k l0_0 l0_1 a0_2 a0_3 a0_4 a1).bind fun t262 => (some t262)) else (some (-1)))) = some r:=H
  have A5:=Am A50
  clear A50
  replace H:=Option.bind_eq_some_iff.mp H
  obtain ⟨t261,A60,H⟩:=H
  replace H : (if t261 = true then ((spec_l2rate.f k l0_0 l0_1 a0_2 a0_3 a0_4 a1).bind fun t262 => (some t262)) else (some (-1))) = some r:=H
  have A6:=Am A60
  clear A60
  by_cases c7 : t261 = true
  ·subst c7
   have H1 : ((spec_l2rate.f k l0_0 l0_1 a0_2 a0_3 a0_4 a1).bind fun t262 => (some t262)) = some r:=by rw [if_pos rfl] at H;exact H
   clear H
   have H:=H1
   clear H1
   replace H:=Option.bind_eq_some_iff.mp H
   obtain ⟨t262,A80,H⟩:=H
   replace H : (some t262) = some r:=H
   have A8:=Am A80
   clear A80
   obtain rfl:=Option.some.inj H
   go_enter Try.func21,Try.ntmps21
   go_wp2_with (first|((with_reducible refine gate_dst (N:=2) rfl ?_);refine box_event ?hg (N:=2) ?hd (cs:=#[.slice A0_0 l0_0.length c0_0,.slice A0_1 l0_1.length c0_1,.int .i64 a0_2,.int .i64 a0_3,.int .i64 a0_4]) (t:=31) ?hr ?_;(case hd => rfl);(case hg => rfl);(case hr => first|(go_simp;done)|(go_simp;rfl));intro gb258 hg w9 hbox hb;have n0_:=Am (below_step (by repeat (first|(with_reducible first|exact HB.out|apply bA|apply bN|apply bD)|exact HB.out)) hb);have n1_:=Am (hbox);have n2_:=Am ((by rw [hg];exact (below_size (by repeat (first|(with_reducible first|exact HB.out|apply bA|apply bN|apply bD)|exact HB.out))) : w.heap.size ≤ gb258));have n3_:=Am ((by rw [hg];exact (below_size (by repeat (first|(with_reducible first|exact HB.out|apply bA|apply bN|apply bD)|exact HB.out))) : w.heap.size ≤ gb258));clear HB;have HB:=n0_;have BK258:=n1_;have GW258:=n2_;have GE258:=n3_;clear n0_ n1_ n2_ n3_;clear hb hbox hg;have hcz10_0 : w9.cell? ⟨gb258,0,none⟩ = some (.slice A0_0 l0_0.length c0_0):=(kC BK258.out 0).trans rfl;have hcz10_1 : w9.cell? ⟨gb258,1,none⟩ = some (.slice A0_1 l0_1.length c0_1):=(kC BK258.out 1).trans rfl;have hcz10_2 : w9.cell? ⟨gb258,2,none⟩ = some (.int .i64 a0_2):=(kC BK258.out 2).trans rfl;have hcz10_3 : w9.cell? ⟨gb258,3,none⟩ = some (.int .i64 a0_3):=(kC BK258.out 3).trans rfl;have hcz10_4 : w9.cell? ⟨gb258,4,none⟩ = some (.int .i64 a0_4):=(kC BK258.out 4).trans rfl;have hfz10_0:=kF BK258.out 0;have hfz10_1:=kF BK258.out 1;have hfz10_2:=kF BK258.out 2;have hfz10_3:=kF BK258.out 3;have hfz10_4:=kF BK258.out 4)|((with_reducible refine gate_callee (f:=15) rfl ?_);refine goesL_ (some 6) rfl rfl Try.func15 (by kernel_rfl) rfl #[.agg #[.slice A0_0 l0_0.length c0_0,.slice A0_1 l0_1.length c0_1,.int .i64 a0_2,.int .i64 a0_3,.int .i64 a0_4]] rfl (by (try simp only [List.map_toArray,List.map_cons,List.map_nil]);first|done|rfl|(simp only [List.length_drop,List.length_take];rfl)) ?_;(with_reducible refine (spec_ProfileOk.calls k _ _ l0_0 _ _ l0_1 a0_2 a0_3 a0_4 t259 _ ?side1 ?side2 ?side3 ?side4 A3.out).mono ?_);(case side1 => repeat (first|exact (Kd.C_below HR0_0.out HB.out)|(with_reducible refine Kd.C_alloc ?_ _)|(with_reducible refine Kd.C_drewN ?_ _)|(with_reducible refine Kd.C_drew ?_)));(case side2 => exact HC0_0.out);(case side3 => repeat (first|exact (Kd.C_below HR0_1.out HB.out)|(with_reducible refine Kd.C_alloc ?_ _)|(with_reducible refine Kd.C_drewN ?_ _)|(with_reducible refine Kd.C_drew ?_)));(case side4 => exact HC0_1.out);rintro e w11 ⟨rfl,hb⟩;refine ⟨_,rfl,?_⟩;have n0_:=Am (blk_below (g:=gb258) (o:=.cells #[.slice A0_0 l0_0.length c0_0,.slice A0_1 l0_1.length c0_1,.int .i64 a0_2,.int .i64 a0_3,.int .i64 a0_4] 31 (0,0)) (by (with_reducible repeat (first|refine kN ?_ _|refine kD ?_|refine kA ?_ _));exact BK258.out) hb);have n1_:=Am (below_step (by repeat (first|(with_reducible first|exact HB.out|apply bA|apply bN|apply bD|refine bS ?_ GE258.out)|exact HB.out)) hb);clear BK258;clear HB;have BK258:=n0_;have HB:=n1_;clear n0_ n1_;(try clear hb);(try clear hb2);(try clear hk);(try clear hi);have hcz12_0 : w11.cell? ⟨gb258,0,none⟩ = some (.slice A0_0 l0_0.length c0_0):=(kC BK258.out 0).trans rfl;have hcz12_1 : w11.cell? ⟨gb258,1,none⟩ = some (.slice A0_1 l0_1.length c0_1):=(kC BK258.out 1).trans rfl;have hcz12_2 : w11.cell? ⟨gb258,2,none⟩ = some (.int .i64 a0_2):=(kC BK258.out 2).trans rfl;have hcz12_3 : w11.cell? ⟨gb258,3,none⟩ = some (.int .i64 a0_3):=(kC BK258.out 3).trans rfl;have hcz12_4 : w11.cell? ⟨gb258,4,none⟩ = some (.int .i64 a0_4):=(kC BK258.out 4).trans rfl;have hfz12_0:=kF BK258.out 0;have hfz12_1:=kF BK258.out 1;have hfz12_2:=kF BK258.out 2;have hfz12_3:=kF BK258.out 3;have hfz12_4:=kF BK258.out 4)|(go_at_call 59;(with_reducible refine (spec_l2total.calls k _ _ l0_0 _ _ l0_1 a0_2 a0_3 a0_4 t260 _ ?side1 ?side2 ?side3 ?side4 A5.out).mono ?_);(case side1 => repeat (first|exact (Kd.C_below HR0_0.out HB.out)|(with_reducible refine Kd.C_alloc ?_ _)|(with_reducible refine Kd.C_drewN ?_ _)|(with_reducible refine Kd.C_drew ?_)));(case side2 => exact HC0_0.out);(case side3 => repeat (first|exact (Kd.C_below HR0_1.out HB.out)|(with_reducible refine Kd.C_alloc ?_ _)|(with_reducible refine Kd.C_drewN ?_ _)|(with_reducible refine Kd.C_drew ?_)));(case side4 => exact HC0_1.out);rintro e w13 ⟨rfl,hb⟩;have n0_:=Am (blk_below (g:=gb258) (o:=.cells #[.slice A0_0 l0_0.length c0_0,.slice A0_1 l0_1.length c0_1,.int .i64 a0_2,.int .i64 a0_3,.int .i64 a0_4] 31 (0,0)) (by (with_reducible repeat (first|refine kN ?_ _|refine kD ?_|refine kA ?_ _));exact BK258.out) hb);have n1_:=Am (below_step (by repeat (first|(with_reducible first|exact HB.out|apply bA|apply bN|apply bD|refine bS ?_ GE258.out)|exact HB.out)) hb);clear BK258;clear HB;have BK258:=n0_;have HB:=n1_;clear n0_ n1_;(try clear hb);(try clear hb2);(try clear hk);(try clear hi))|(go_at_call 57;(with_reducible refine (spec_l1in.calls a1 0 t260 true _ A6.out).mono ?_);rintro e w' ⟨rfl,⟨nd,rfl⟩⟩;have hcz14_0 : w13.cell? ⟨gb258,0,none⟩ = some (.slice A0_0 l0_0.length c0_0):=(kC BK258.out 0).trans rfl;have hcz14_1 : w13.cell? ⟨gb258,1,none⟩ = some (.slice A0_1 l0_1.length c0_1):=(kC BK258.out 1).trans rfl;have hcz14_2 : w13.cell? ⟨gb258,2,none⟩ = some (.int .i64 a0_2):=(kC BK258.out 2).trans rfl;have hcz14_3 : w13.cell? ⟨gb258,3,none⟩ = some (.int .i64 a0_3):=(kC BK258.out 3).trans rfl;have hcz14_4 : w13.cell? ⟨gb258,4,none⟩ = some (.int .i64 a0_4):=(kC BK258.out 4).trans rfl;have hfz14_0:=kF BK258.out 0;have hfz14_1:=kF BK258.out 1;have hfz14_2:=kF BK258.out 2;have hfz14_3:=kF BK258.out 3;have hfz14_4:=kF BK258.out 4)|((with_reducible refine gate_callee (f:=70) rfl ?_);refine goesL_ (some 17) rfl rfl Try.func70 (by kernel_rfl) rfl #[.agg #[.slice A0_0 l0_0.length c0_0,.slice A0_1 l0_1.length c0_1,.int .i64 a0_2,.int .i64 a0_3,.int .i64 a0_4],.int .i64 a1] rfl (by (try simp only [List.map_toArray,List.map_cons,List.map_nil]);first|done|rfl|(simp only [List.length_drop,List.length_take];rfl)) ?_;(with_reducible refine (spec_l2rate.calls k _ _ l0_0 _ _ l0_1 a0_2 a0_3 a0_4 a1 t262 _ ?side1 ?side2 ?side3 ?side4 A8.out).mono ?_);(case side1 => repeat (first|exact (Kd.C_below HR0_0.out (by repeat (first|(with_reducible first|exact HB.out|apply bA|apply bN|apply bD|refine bS ?_ GE258.out)|exact HB.out)))|(with_reducible refine Kd.C_alloc ?_ _)|(with_reducible refine Kd.C_drewN ?_ _)|(with_reducible refine Kd.C_drew ?_)));(case side2 => exact HC0_0.out);(case side3 => repeat (first|exact (Kd.C_below HR0_1.out (by repeat (first|(with_reducible first|exact HB.out|apply bA|apply bN|apply bD|refine bS ?_ GE258.out)|exact HB.out)))|(with_reducible refine Kd.C_alloc ?_ _)|(with_reducible refine Kd.C_drewN ?_ _)|(with_reducible refine Kd.C_drew ?_)));(case side4 => exact HC0_1.out);rintro e w15 ⟨rfl,hb⟩;refine ⟨_,rfl,?_⟩;have n0_:=Am (blk_below (g:=gb258) (o:=.cells #[.slice A0_0 l0_0.length c0_0,.slice A0_1 l0_1.length c0_1,.int .i64 a0_2,.int .i64 a0_3,.int .i64 a0_4] 31 (0,0)) (by (with_reducible repeat (first|refine kN ?_ _|refine kD ?_|refine kA ?_ _));exact BK258.out) hb);have n1_:=Am (below_step (by repeat (first|(with_reducible first|exact HB.out|apply bA|apply bN|apply bD|refine bS ?_ GE258.out)|exact HB.out)) hb);clear BK258;clear HB;have BK258:=n0_;have HB:=n1_;clear n0_ n1_;(try clear hb);(try clear hb2);(try clear hk);(try clear hi)))
   go_ret
   exact ⟨by first|rfl|(simp [errW_none,errW_some] <;> rfl)|(simp [*,errW_none,errW_some] <;> rfl),by repeat (first|(with_reducible first|exact HB.out|apply bA|apply bN|apply bD|refine bS ?_ GE258.out)|exact HB.out)⟩
  ·replace c7:=Bool.eq_false_iff.mpr c7
   subst c7
   have H1 : (some (-1)) = some r:=by rw [if_neg (show ¬ (false = true) by decide)] at H;exact H
   clear H
   have H:=H1
   clear H1
   obtain rfl:=Option.some.inj H
   go_enter Try.func21,Try.ntmps21
   go_wp2_with (first|((with_reducible refine gate_dst (N:=2) rfl ?_);refine box_event ?hg (N:=2) ?hd (cs:=#[.slice A0_0 l0_0.length c0_0,.slice A0_1 l0_1.length c0_1,.int .i64 a0_2,.int .i64 a0_3,.int .i64 a0_4]) (t:=31) ?hr ?_;(case hd => rfl);(case hg => rfl);(case hr => first|(go_simp;done)|(go_simp;rfl));intro gb258 hg w16 hbox hb;have n0_:=Am (below_step (by repeat (first|(with_reducible first|exact HB.out|apply bA|apply bN|apply bD)|exact HB.out)) hb);have n1_:=Am (hbox);have n2_:=Am ((by rw [hg];exact (below_size (by repeat (first|(with_reducible first|exact HB.out|apply bA|apply bN|apply bD)|exact HB.out))) : w.heap.size ≤ gb258));have n3_:=Am ((by rw [hg];exact (below_size (by repeat (first|(with_reducible first|exact HB.out|apply bA|apply bN|apply bD)|exact HB.out))) : w.heap.size ≤ gb258));clear HB;have HB:=n0_;have BK258:=n1_;have GW258:=n2_;have GE258:=n3_;clear n0_ n1_ n2_ n3_;clear hb hbox hg;have hcz17_0 : w16.cell? ⟨gb258,0,none⟩ = some (.slice A0_0 l0_0.length c0_0):=(kC BK258.out 0).trans rfl;have hcz17_1 : w16.cell? ⟨gb258,1,none⟩ = some (.slice A0_1 l0_1.length c0_1):=(kC BK258.out 1).trans rfl;have hcz17_2 : w16.cell? ⟨gb258,2,none⟩ = some (.int .i64 a0_2):=(kC BK258.out 2).trans rfl;have hcz17_3 : w16.cell? ⟨gb258,3,none⟩ = some (.int .i64 a0_3):=(kC BK258.out 3).trans rfl;have hcz17_4 : w16.cell? ⟨gb258,4,none⟩ = some (.int .i64 a0_4):=(kC BK258.out 4).trans rfl;have hfz17_0:=kF BK258.out 0;have hfz17_1:=kF BK258.out 1;have hfz17_2:=kF BK258.out 2;have hfz17_3:=kF BK258.out 3;have hfz17_4:=kF BK258.out 4)|((with_reducible refine gate_callee (f:=15) rfl ?_);refine goesL_ (some 6) rfl rfl Try.func15 (by kernel_rfl) rfl #[.agg #[.slice A0_0 l0_0.length c0_0,.slice A0_1 l0_1.length c0_1,.int .i64 a0_2,.int .i64 a0_3,.int .i64 a0_4]] rfl (by (try simp only [List.map_toArray,List.map_cons,List.map_nil]);first|done|rfl|(simp only [List.length_drop,List.length_take];rfl)) ?_;(with_reducible refine (spec_ProfileOk.calls k _ _ l0_0 _ _ l0_1 a0_2 a0_3 a0_4 t259 _ ?side1 ?side2 ?side3 ?side4 A3.out).mono ?_);(case side1 => repeat (first|exact (Kd.C_below HR0_0.out HB.out)|(with_reducible refine Kd.C_alloc ?_ _)|(with_reducible refine Kd.C_drewN ?_ _)|(with_reducible refine Kd.C_drew ?_)));(case side2 => exact HC0_0.out);(case side3 => repeat (first|exact (Kd.C_below HR0_1.out HB.out)|(with_reducible refine Kd.C_alloc ?_ _)|(with_reducible refine Kd.C_drewN ?_ _)|(with_reducible refine Kd.C_drew ?_)));(case side4 => exact HC0_1.out);rintro e w18 ⟨rfl,hb⟩;refine ⟨_,rfl,?_⟩;have n0_:=Am (blk_below (g:=gb258) (o:=.cells #[.slice A0_0 l0_0.length c0_0,.slice A0_1 l0_1.length c0_1,.int .i64 a0_2,.int .i64 a0_3,.int .i64 a0_4] 31 (0,0)) (by (with_reducible repeat (first|refine kN ?_ _|refine kD ?_|refine kA ?_ _));exact BK258.out) hb);have n1_:=Am (below_step (by repeat (first|(with_reducible first|exact HB.out|apply bA|apply bN|apply bD|refine bS ?_ GE258.out)|exact HB.out)) hb);clear BK258;clear HB;have BK258:=n0_;have HB:=n1_;clear n0_ n1_;(try clear hb);(try clear hb2);(try clear hk);(try clear hi);have hcz19_0 : w18.cell? ⟨gb258,0,none⟩ = some (.slice A0_0 l0_0.length c0_0):=(kC BK258.out 0).trans rfl;have hcz19_1 : w18.cell? ⟨gb258,1,none⟩ = some (.slice A0_1 l0_1.length c0_1):=(kC BK258.out 1).trans rfl;have hcz19_2 : w18.cell? ⟨gb258,2,none⟩ = some (.int .i64 a0_2):=(kC BK258.out 2).trans rfl;have hcz19_3 : w18.cell? ⟨gb258,3,none⟩ = some (.int .i64 a0_3):=(kC BK258.out 3).trans rfl;have hcz19_4 : w18.cell? ⟨gb258,4,none⟩ = some (.int .i64 a0_4):=(kC BK258.out 4).trans rfl;have hfz19_0:=kF BK258.out 0;have hfz19_1:=kF BK258.out 1;have hfz19_2:=kF BK258.out 2;have hfz19_3:=kF BK258.out 3;have hfz19_4:=kF BK258.out 4)|(go_at_call 59;(with_reducible refine (spec_l2total.calls k _ _ l0_0 _ _ l0_1 a0_2 a0_3 a0_4 t260 _ ?side1 ?side2 ?side3 ?side4 A5.out).mono ?_);(case side1 => repeat (first|exact (Kd.C_below HR0_0.out HB.out)|(with_reducible refine Kd.C_alloc ?_ _)|(with_reducible refine Kd.C_drewN ?_ _)|(with_reducible refine Kd.C_drew ?_)));(case side2 => exact HC0_0.out);(case side3 => repeat (first|exact (Kd.C_below HR0_1.out HB.out)|(with_reducible refine Kd.C_alloc ?_ _)|(with_reducible refine Kd.C_drewN ?_ _)|(with_reducible refine Kd.C_drew ?_)));(case side4 => exact HC0_1.out);rintro e w20 ⟨rfl,hb⟩;have n0_:=Am (blk_below (g:=gb258) (o:=.cells #[.slice A0_0 l0_0.length c0_0,.slice A0_1 l0_1.length c0_1,.int .i64 a0_2,.int .i64 a0_3,.int .i64 a0_4] 31 (0,0)) (by (with_reducible repeat (first|refine kN ?_ _|refine kD ?_|refine kA ?_ _));exact BK258.out) hb);have n1_:=Am (below_step (by repeat (first|(with_reducible first|exact HB.out|apply bA|apply bN|apply bD|refine bS ?_ GE258.out)|exact HB.out)) hb);clear BK258;clear HB;have BK258:=n0_;have HB:=n1_;clear n0_ n1_;(try clear hb);(try clear hb2);(try clear hk);(try clear hi))|(go_at_call 57;(with_reducible refine (spec_l1in.calls a1 0 t260 false _ A6.out).mono ?_);rintro e w' ⟨rfl,⟨nd,rfl⟩⟩))
   go_ret
   exact ⟨by first|rfl|(simp [errW_none,errW_some] <;> rfl)|(simp [*,errW_none,errW_some] <;> rfl),by repeat (first|(with_reducible first|exact HB.out|apply bA|apply bN|apply bD|refine bS ?_ GE258.out)|exact HB.out)⟩
 ·rw [if_neg c4] at H
  have c4b0 : (t259 == 0) = false:=beq_eq_false_iff_ne.mpr c4
  have c4b1 : (t259 != 0) = true:=bne_iff_ne.mpr c4
  obtain rfl:=Option.some.inj H
  go_enter Try.func21,Try.ntmps21
  go_wp2_with (first|((with_reducible refine gate_dst (N:=2) rfl ?_);refine box_event ?hg (N:=2) ?hd (cs:=#[.slice A0_0 l0_0.length c0_0,.slice A0_1 l0_1.length c0_1,.int .i64 a0_2,.int .i64 a0_3,.int .i64 a0_4]) (t:=31) ?hr ?_;(case hd => rfl);(case hg => rfl);(case hr => first|(go_simp;done)|(go_simp;rfl));intro gb258 hg w21 hbox hb;have n0_:=Am (below_step (by repeat (first|(with_reducible first|exact HB.out|apply bA|apply bN|apply bD)|exact HB.out)) hb);have n1_:=Am (hbox);have n2_:=Am ((by rw [hg];exact (below_size (by repeat (first|(with_reducible first|exact HB.out|apply bA|apply bN|apply bD)|exact HB.out))) : w.heap.size ≤ gb258));have n3_:=Am ((by rw [hg];exact (below_size (by repeat (first|(with_reducible first|exact HB.out|apply bA|apply bN|apply bD)|exact HB.out))) : w.heap.size ≤ gb258));clear HB;have HB:=n0_;have BK258:=n1_;have GW258:=n2_;have GE258:=n3_;clear n0_ n1_ n2_ n3_;clear hb hbox hg;have hcz22_0 : w21.cell? ⟨gb258,0,none⟩ = some (.slice A0_0 l0_0.length c0_0):=(kC BK258.out 0).trans rfl;have hcz22_1 : w21.cell? ⟨gb258,1,none⟩ = some (.slice A0_1 l0_1.length c0_1):=(kC BK258.out 1).trans rfl;have hcz22_2 : w21.cell? ⟨gb258,2,none⟩ = some (.int .i64 a0_2):=(kC BK258.out 2).trans rfl;have hcz22_3 : w21.cell? ⟨gb258,3,none⟩ = some (.int .i64 a0_3):=(kC BK258.out 3).trans rfl;have hcz22_4 : w21.cell? ⟨gb258,4,none⟩ = some (.int .i64 a0_4):=(kC BK258.out 4).trans rfl;have hfz22_0:=kF BK258.out 0;have hfz22_1:=kF BK258.out 1;have hfz22_2:=kF BK258.out 2;have hfz22_3:=kF BK258.out 3;have hfz22_4:=kF BK258.out 4)|((with_reducible refine gate_callee (f:=15) rfl ?_);refine goesL_ (some 6) rfl rfl Try.func15 (by kernel_rfl) rfl #[.agg #[.slice A0_0 l0_0.length c0_0,.slice A0_1 l0_1.length c0_1,.int .i64 a0_2,.int .i64 a0_3,.int .i64 a0_4]] rfl (by (try simp only [List.map_toArray,List.map_cons,List.map_nil]);first|done|rfl|(simp only [List.length_drop,List.length_take];rfl)) ?_;(with_reducible refine (spec_ProfileOk.calls k _ _ l0_0 _ _ l0_1 a0_2 a0_3 a0_4 t259 _ ?side1 ?side2 ?side3 ?side4 A3.out).mono ?_);(case side1 => repeat (first|exact (Kd.C_below HR0_0.out HB.out)|(with_reducible refine Kd.C_alloc ?_ _)|(with_reducible refine Kd.C_drewN ?_ _)|(with_reducible refine Kd.C_drew ?_)));(case side2 => exact HC0_0.out);(case side3 => repeat (first|exact (Kd.C_below HR0_1.out HB.out)|(with_reducible refine Kd.C_alloc ?_ _)|(with_reducible refine Kd.C_drewN ?_ _)|(with_reducible refine Kd.C_drew ?_)));(case side4 => exact HC0_1.out);rintro e w23 ⟨rfl,hb⟩;refine ⟨_,rfl,?_⟩;have n0_:=Am (blk_below (g:=gb258) (o:=.cells #[.slice A0_0 l0_0.length c0_0,.slice A0_1 l0_1.length c0_1,.int .i64 a0_2,.int .i64 a0_3,.int .i64 a0_4] 31 (0,0)) (by (with_reducible repeat (first|refine kN ?_ _|refine kD ?_|refine kA ?_ _));exact BK258.out) hb);have n1_:=Am (below_step (by repeat (first|(with_reducible first|exact HB.out|apply bA|apply bN|apply bD|refine bS ?_ GE258.out)|exact HB.out)) hb);clear BK258;clear HB;have BK258:=n0_;have HB:=n1_;clear n0_ n1_;(try clear hb);(try clear hb2);(try clear hk);(try clear hi)))
  go_ret
  exact ⟨by first|rfl|(simp [errW_none,errW_some] <;> rfl)|(simp [*,errW_none,errW_some] <;> rfl),by repeat (first|(with_reducible first|exact HB.out|apply bA|apply bN|apply bD|refine bS ?_ GE258.out)|exact HB.out)⟩

/-! ### impl_brakeAt: function 71 -/
def impl_brakeAt.l0 : Nat → Int → List (S71) → Int → Int → List (S71) → List (S75) → Int → Int → Int → Option (Int)
 | 0,_,_,_,_,_,_,_,_,_ => none
 | k + 1,x1,x8,x9,x10,x264000,x264001,x264002,x264003,x264004 => if x10 < x9 then (if 0 ≤ x10 then (if x10 < (x8.length : Int) then (if x1 < ((rd_T71 x8 x10).f0) then (some ((rd_T71 x8 x10).f1)) else (impl_brakeAt.l0 k (wrap64 (x1 - ((rd_T71 x8 x10).f0))) x8 x9 (wrap64 (x10 + 1)) x264000 x264001 x264002 x264003 x264004)) else (none)) else (none)) else (if 0 ≤ (wrap64 ((x264000.length : Int) - 1)) then (if (wrap64 ((x264000.length : Int) - 1)) < (x264000.length : Int) then (some ((rd_T71 x264000 (wrap64 ((x264000.length : Int) - 1))).f1)) else (none)) else (none))
def impl_brakeAt.f (k : Nat) (l0_0 : List (S71)) (l0_1 : List (S75)) (a0_2 : Int) (a0_3 : Int) (a0_4 : Int) (a1 : Int) : Option (Int):=impl_brakeAt.l0 k a1 l0_0 (l0_0.length : Int) 0 l0_0 l0_1 a0_2 a0_3 a0_4
theorem impl_brakeAt.mono_l : ∀ k,(∀ y0 y1 y2 y3 y4 y5 y6 y7 y8,LeO (impl_brakeAt.l0 k y0 y1 y2 y3 y4 y5 y6 y7 y8) (impl_brakeAt.l0 (k + 1) y0 y1 y2 y3 y4 y5 y6 y7 y8))
 | 0 => fun _ _ _ _ _ _ _ _ _ r h => by simp [impl_brakeAt.l0] at h
 | k + 1 => by
  have ih0:=impl_brakeAt.mono_l k
  ·intro y0 y1 y2 y3 y4 y5 y6 y7 y8
   unfold impl_brakeAt.l0
   repeat' first
   | (with_reducible exact ih0 _ _ _ _ _ _ _ _ _)
   | (with_reducible exact LeO.refl _)
   | (with_reducible exact LeO.none _)
   | (with_reducible refine LeO.ite ?_ ?_)
   | (with_reducible refine LeO.bind ?_ (fun _ => ?_))
   | exact ih0 _ _ _ _ _ _ _ _ _
   | exact LeO.none _
   | refine LeO.ite ?_ ?_
   | refine LeO.bind ?_ (fun _ => ?_)
theorem impl_brakeAt.mono : ∀ a0 a1 a2 a3 a4 a5 k,LeO (impl_brakeAt.f k a0 a1 a2 a3 a4 a5) (impl_brakeAt.f (k + 1) a0 a1 a2 a3 a4 a5):=by
 intro a0 a1 a2 a3 a4 a5 k
 have ih0:=impl_brakeAt.mono_l k
 unfold impl_brakeAt.f
 repeat' first
   | (with_reducible exact ih0 _ _ _ _ _ _ _ _ _)
   | (with_reducible exact LeO.refl _)
   | (with_reducible exact LeO.none _)
   | (with_reducible refine LeO.ite ?_ ?_)
   | (with_reducible refine LeO.bind ?_ (fun _ => ?_))
   | exact ih0 _ _ _ _ _ _ _ _ _
   | exact LeO.none _
   | refine LeO.ite ?_ ?_
   | refine LeO.bind ?_ (fun _ => ?_)
set_option maxHeartbeats 8000000 in
set_option maxRecDepth 100000 in
theorem impl_brakeAt.calls (k : Nat) (A0_0 : Option Addr) (c0_0 : Nat) (l0_0 : List (S71)) (A0_1 : Option Addr) (c0_1 : Nat) (l0_1 : List (S75)) (a0_2 : Int) (a0_3 : Int) (a0_4 : Int) (a1 : Int) (r : Int) (w : World) (hr0_0 : Kd.C k71 w A0_0 l0_0.length l0_0) (hc0_0 : l0_0.length ≤ c0_0) (hr0_1 : Kd.C k75 w A0_1 l0_1.length l0_1) (hc0_1 : l0_1.length ≤ c0_1) (h : impl_brakeAt.f k l0_0 l0_1 a0_2 a0_3 a0_4 a1 = some r) :
  Calls Try.prog 71 #[.agg #[.slice A0_0 l0_0.length c0_0,.slice A0_1 l0_1.length c0_1,.int .i64 a0_2,.int .i64 a0_3,.int .i64 a0_4],.int .i64 a1] w fun e w' => e = .returned (.int .i64 r)∧Below w.heap.size w w':=by
 have hu31:=Try.underlying31
 have hu71:=Try.underlying71
 have HR0_0:=Am hr0_0
 have HC0_0:=Am hc0_0
 clear hr0_0 hc0_0
 have HR0_1:=Am hr0_1
 have HC0_1:=Am hc0_1
 clear hr0_1 hc0_1
 have HB:=Am (Below.refl w.heap.size w)
 have H : (impl_brakeAt.l0 k a1 l0_0 (l0_0.length : Int) 0 l0_0 l0_1 a0_2 a0_3 a0_4) = some r:=h
 clear h
 have H':=Am H
 clear H
 go_enter Try.func71,Try.ntmps71
 go_wp2_with (first|((with_reducible refine gate_dst (N:=2) rfl ?_);refine box_event ?hg (N:=2) ?hd (cs:=#[.slice A0_0 l0_0.length c0_0,.slice A0_1 l0_1.length c0_1,.int .i64 a0_2,.int .i64 a0_3,.int .i64 a0_4]) (t:=31) ?hr ?_;(case hd => rfl);(case hg => rfl);(case hr => first|(go_simp;done)|(go_simp;rfl));intro gb263 hg w3 hbox hb;have n0_:=Am (below_step (by repeat (first|(with_reducible first|exact HB.out|apply bA|apply bN|apply bD)|exact HB.out)) hb);have n1_:=Am (hbox);have n2_:=Am ((by rw [hg];exact (below_size (by repeat (first|(with_reducible first|exact HB.out|apply bA|apply bN|apply bD)|exact HB.out))) : w.heap.size ≤ gb263));have n3_:=Am ((by rw [hg];exact (below_size (by repeat (first|(with_reducible first|exact HB.out|apply bA|apply bN|apply bD)|exact HB.out))) : w.heap.size ≤ gb263));clear HB;have HB:=n0_;have BK263:=n1_;have GW263:=n2_;have GE263:=n3_;clear n0_ n1_ n2_ n3_;clear hb hbox hg;have hcz4_0 : w3.cell? ⟨gb263,0,none⟩ = some (.slice A0_0 l0_0.length c0_0):=(kC BK263.out 0).trans rfl;have hcz4_1 : w3.cell? ⟨gb263,1,none⟩ = some (.slice A0_1 l0_1.length c0_1):=(kC BK263.out 1).trans rfl;have hcz4_2 : w3.cell? ⟨gb263,2,none⟩ = some (.int .i64 a0_2):=(kC BK263.out 2).trans rfl;have hcz4_3 : w3.cell? ⟨gb263,3,none⟩ = some (.int .i64 a0_3):=(kC BK263.out 3).trans rfl;have hcz4_4 : w3.cell? ⟨gb263,4,none⟩ = some (.int .i64 a0_4):=(kC BK263.out 4).trans rfl;have hfz4_0:=kF BK263.out 0;have hfz4_1:=kF BK263.out 1;have hfz4_2:=kF BK263.out 2;have hfz4_3:=kF BK263.out 3;have hfz4_4:=kF BK263.out 4))
 go_loopg [1,10] k (fun kq v1 v10 w' => ∃ (x1_1 : Int) (x10_1 : Int),v1 = .int .i64 x1_1∧v10 = .int .i64 x10_1∧As (impl_brakeAt.l0 kq x1_1 l0_0 (l0_0.length : Int) x10_1 l0_0 l0_1 a0_2 a0_3 a0_4 = some r)∧As (kq ≤ k)∧As (w'.heap[gb263]? = some (.cells #[(.slice A0_0 l0_0.length c0_0),(.slice A0_1 l0_1.length c0_1),.int .i64 a0_2,.int .i64 a0_3,.int .i64 a0_4] 31 (0,0)))∧As (Below w.heap.size w w'))
 case atStart => exact ⟨(a1),(0),(by first|rfl|(simp;done)|(simp [*];done)),(by first|rfl|(simp;done)|(simp [*];done)),H',⟨Nat.le_refl _⟩,⟨by (with_reducible repeat (first|refine kN ?_ _|refine kD ?_|refine kA ?_ _));exact BK263.out⟩,⟨by repeat (first|(with_reducible first|exact HB.out|apply bA|apply bN|apply bD|refine bS ?_ GE263.out)|exact HB.out)⟩⟩
 case round =>
  clear H'
  try clear p2
  try clear hcz4_0
  try clear hcz4_1
  try clear hcz4_2
  try clear hcz4_3
  try clear hcz4_4
  try clear hfz4_0
  try clear hfz4_1
  try clear hfz4_2
  try clear hfz4_3
  try clear hfz4_4
  obtain ⟨x1_1,x10_1,rfl,rfl,HA,HK1,BK263,HB⟩:=hrel
  cases gk with
  | zero => exact absurd HA.out (by simp [impl_brakeAt.l0])
  | succ k1 =>
   have H:=HA.out
   clear HA
   simp only [impl_brakeAt.l0] at H
   by_cases c5 : x10_1 < (l0_0.length : Int)
   ·rw [if_pos c5] at H
    have c5b0 : decide (x10_1 < (l0_0.length : Int)) = true:=decide_eq_true c5
    clear c5
    by_cases c6 : 0 ≤ x10_1
    ·rw [if_pos c6] at H
     have c6b0 : decide (0 ≤ x10_1) = true:=decide_eq_true c6
     clear c6
     by_cases c7 : x10_1 < (l0_0.length : Int)
     ·rw [if_pos c7] at H
      have c7b0 : decide (x10_1 < (l0_0.length : Int)) = true:=decide_eq_true c7
      clear c7
      by_cases c8 : x1_1 < ((rd_T71 l0_0 x10_1).f0)
      ·rw [if_pos c8] at H
       have c8b0 : decide (x1_1 < ((rd_T71 l0_0 x10_1).f0)) = true:=decide_eq_true c8
       clear c8
       obtain rfl:=Option.some.inj H
       have p264 : 0 ≤ (x10_1 : Int):=of_decide_eq_true (by first|(with_reducible assumption)|assumption)
       have q264 : x10_1 < (l0_0.length : Int):=of_decide_eq_true (by first|(with_reducible assumption)|assumption)
       obtain ⟨ad264,e264,hx264_0,hx264_1⟩:=at_T71 HR0_0.out x10_1 p264 q264
       cases e264
       replace hx264_0:=(HB.out.cell (World.block_lt_of_cell? w _ hx264_0)).trans hx264_0
       replace hx264_1:=(HB.out.cell (World.block_lt_of_cell? w _ hx264_1)).trans hx264_1
       replace p264:=eq_true p264
       replace q264:=eq_true q264
       go_wp2_with (first|((with_reducible refine gate_dst (N:=6) rfl ?_);refine box_event ?hg (N:=6) ?hd (cs:=#[.int .i64 0,.int .i64 0]) (t:=71) ?hr ?_;(case hd => rfl);(case hg => rfl);(case hr => first|(go_simp;done)|(go_simp;rfl));intro gb265 hg w9 hbox hb;have n0_:=Am (blk_below (g:=gb263) (o:=.cells #[.slice (some ad264) l0_0.length c0_0,.slice A0_1 l0_1.length c0_1,.int .i64 a0_2,.int .i64 a0_3,.int .i64 a0_4] 31 (0,0)) (by (with_reducible repeat (first|refine kN ?_ _|refine kD ?_|refine kA ?_ _));exact BK263.out) hb);have n1_:=Am (below_step (by repeat (first|(with_reducible first|exact HB.out|apply bA|apply bN|apply bD|refine bS ?_ GE263.out)|exact HB.out)) hb);have n2_:=Am (hbox);have n3_:=Am ((by rw [hg];exact (below_size (by repeat (first|(with_reducible first|exact HB.out|apply bA|apply bN|apply bD|refine bS ?_ GE263.out)|exact HB.out))) : w.heap.size ≤ gb265));have n4_:=Am ((by rw [hg];exact (below_size (by repeat (first|(with_reducible first|exact HB.out|apply bA|apply bN|apply bD|refine bS ?_ GE263.out)|exact HB.out))) : w.heap.size ≤ gb265));have n5_:=Am ((by rw [hg];exact Nat.ne_of_lt (blk_lt (g:=gb263) (o:=.cells #[.slice (some ad264) l0_0.length c0_0,.slice A0_1 l0_1.length c0_1,.int .i64 a0_2,.int .i64 a0_3,.int .i64 a0_4] 31 (0,0)) (by (with_reducible repeat (first|refine kN ?_ _|refine kD ?_|refine kA ?_ _));exact BK263.out)) : gb263 ≠ gb265));have n6_:=Am ((by rw [hg];exact Nat.ne_of_gt (blk_lt (g:=gb263) (o:=.cells #[.slice (some ad264) l0_0.length c0_0,.slice A0_1 l0_1.length c0_1,.int .i64 a0_2,.int .i64 a0_3,.int .i64 a0_4] 31 (0,0)) (by (with_reducible repeat (first|refine kN ?_ _|refine kD ?_|refine kA ?_ _));exact BK263.out)) : gb265 ≠ gb263));clear BK263;clear HB;have BK263:=n0_;have HB:=n1_;have BK265:=n2_;have GW265:=n3_;have GE265:=n4_;have NB263_265:=n5_;have NB265_263:=n6_;clear n0_ n1_ n2_ n3_ n4_ n5_ n6_;clear hb hbox hg;have hnb10:=NB265_263.out;have hnc10:=NB263_265.out;have hcz11_0 : w9.cell? ⟨gb265,0,none⟩ = some (.int .i64 0):=(kC BK265.out 0).trans rfl;have hcz11_1 : w9.cell? ⟨gb265,1,none⟩ = some (.int .i64 0):=(kC BK265.out 1).trans rfl;have hfz11_0:=kF BK265.out 0;have hfz11_1:=kF BK265.out 1))
       go_ret
       exact ⟨by first|rfl|(simp [errW_none,errW_some] <;> rfl)|(simp [*,errW_none,errW_some] <;> rfl),by repeat (first|(with_reducible first|exact HB.out|apply bA|apply bN|apply bD|refine bS ?_ GE263.out|refine bS ?_ GE265.out)|exact HB.out)⟩
      ·rw [if_neg c8] at H
       have c8b0 : decide (x1_1 < ((rd_T71 l0_0 x10_1).f0)) = false:=decide_eq_false c8
       clear c8
       have H':=Am H
       clear H
       have p264 : 0 ≤ (x10_1 : Int):=of_decide_eq_true (by first|(with_reducible assumption)|assumption)
       have q264 : x10_1 < (l0_0.length : Int):=of_decide_eq_true (by first|(with_reducible assumption)|assumption)
       obtain ⟨ad264,e264,hx264_0,hx264_1⟩:=at_T71 HR0_0.out x10_1 p264 q264
       cases e264
       replace hx264_0:=(HB.out.cell (World.block_lt_of_cell? w _ hx264_0)).trans hx264_0
       replace hx264_1:=(HB.out.cell (World.block_lt_of_cell? w _ hx264_1)).trans hx264_1
       replace p264:=eq_true p264
       replace q264:=eq_true q264
       go_wp2_with (first|((with_reducible refine gate_dst (N:=6) rfl ?_);refine box_event ?hg (N:=6) ?hd (cs:=#[.int .i64 0,.int .i64 0]) (t:=71) ?hr ?_;(case hd => rfl);(case hg => rfl);(case hr => first|(go_simp;done)|(go_simp;rfl));intro gb265 hg w12 hbox hb;have n0_:=Am (blk_below (g:=gb263) (o:=.cells #[.slice (some ad264) l0_0.length c0_0,.slice A0_1 l0_1.length c0_1,.int .i64 a0_2,.int .i64 a0_3,.int .i64 a0_4] 31 (0,0)) (by (with_reducible repeat (first|refine kN ?_ _|refine kD ?_|refine kA ?_ _));exact BK263.out) hb);have n1_:=Am (below_step (by repeat (first|(with_reducible first|exact HB.out|apply bA|apply bN|apply bD|refine bS ?_ GE263.out)|exact HB.out)) hb);have n2_:=Am (hbox);have n3_:=Am ((by rw [hg];exact (below_size (by repeat (first|(with_reducible first|exact HB.out|apply bA|apply bN|apply bD|refine bS ?_ GE263.out)|exact HB.out))) : w.heap.size ≤ gb265));have n4_:=Am ((by rw [hg];exact (below_size (by repeat (first|(with_reducible first|exact HB.out|apply bA|apply bN|apply bD|refine bS ?_ GE263.out)|exact HB.out))) : w.heap.size ≤ gb265));have n5_:=Am ((by rw [hg];exact Nat.ne_of_lt (blk_lt (g:=gb263) (o:=.cells #[.slice (some ad264) l0_0.length c0_0,.slice A0_1 l0_1.length c0_1,.int .i64 a0_2,.int .i64 a0_3,.int .i64 a0_4] 31 (0,0)) (by (with_reducible repeat (first|refine kN ?_ _|refine kD ?_|refine kA ?_ _));exact BK263.out)) : gb263 ≠ gb265));have n6_:=Am ((by rw [hg];exact Nat.ne_of_gt (blk_lt (g:=gb263) (o:=.cells #[.slice (some ad264) l0_0.length c0_0,.slice A0_1 l0_1.length c0_1,.int .i64 a0_2,.int .i64 a0_3,.int .i64 a0_4] 31 (0,0)) (by (with_reducible repeat (first|refine kN ?_ _|refine kD ?_|refine kA ?_ _));exact BK263.out)) : gb265 ≠ gb263));clear BK263;clear HB;have BK263:=n0_;have HB:=n1_;have BK265:=n2_;have GW265:=n3_;have GE265:=n4_;have NB263_265:=n5_;have NB265_263:=n6_;clear n0_ n1_ n2_ n3_ n4_ n5_ n6_;clear hb hbox hg;have hnb13:=NB265_263.out;have hnc13:=NB263_265.out;have hcz14_0 : w12.cell? ⟨gb265,0,none⟩ = some (.int .i64 0):=(kC BK265.out 0).trans rfl;have hcz14_1 : w12.cell? ⟨gb265,1,none⟩ = some (.int .i64 0):=(kC BK265.out 1).trans rfl;have hfz14_0:=kF BK265.out 0;have hfz14_1:=kF BK265.out 1))
       go_roundg k1
       case measure => have:=HK1.out;omega
       case rel => exact ⟨(wrap64 (x1_1 - ((rd_T71 l0_0 x10_1).f0))),(wrap64 (x10_1 + 1)),(by first|rfl|(simp;done)|(simp [*];done)),(by first|rfl|(simp;done)|(simp [*];done)),H',⟨by have:=HK1.out;omega⟩,⟨by (with_reducible repeat (first|refine kN ?_ _|refine kD ?_|refine kA ?_ _));refine blk_far ?_ NB263_265.out _;(with_reducible repeat (first|refine kN ?_ _|refine kD ?_|refine kA ?_ _));refine blk_far ?_ NB263_265.out _;(with_reducible repeat (first|refine kN ?_ _|refine kD ?_|refine kA ?_ _));exact BK263.out⟩,⟨by repeat (first|(with_reducible first|exact HB.out|apply bA|apply bN|apply bD|refine bS ?_ GE263.out|refine bS ?_ GE265.out)|exact HB.out)⟩⟩
     ·rw [if_neg c7] at H
      exact absurd H (by simp)
    ·rw [if_neg c6] at H
     exact absurd H (by simp)
   ·rw [if_neg c5] at H
    have c5b0 : decide (x10_1 < (l0_0.length : Int)) = false:=decide_eq_false c5
    clear c5
    obtain ⟨ji15,hji15⟩ : ∃ j_ : Int,(wrap64 ((l0_0.length : Int) - 1)) = j_:=⟨_,rfl⟩
    replace H : (if 0 ≤ (ji15) then (if (ji15) < (l0_0.length : Int) then (some ((rd_T71 l0_0 (ji15)).f1)) else (none)) else (none)) = some r:=by first|(rw [hji15] at H;exact H)|(simp only [hji15] at H ⊢;exact H)
    have hji15w : (IntKind.i64.wrap ((l0_0.length : Int) - 1)) = ji15:=(i64_w _).trans hji15
    by_cases c16 : 0 ≤ (ji15)
    ·rw [if_pos c16] at H
     have c16b0 : decide (0 ≤ (ji15)) = true:=decide_eq_true c16
     clear c16
     by_cases c17 : (ji15) < (l0_0.length : Int)
     ·rw [if_pos c17] at H
      have c17b0 : decide ((ji15) < (l0_0.length : Int)) = true:=decide_eq_true c17
      clear c17
      obtain rfl:=Option.some.inj H
      have hcz18_0 : wr.cell? ⟨gb263,0,none⟩ = some (.slice A0_0 l0_0.length c0_0):=(kC BK263.out 0).trans rfl
      have hcz18_1 : wr.cell? ⟨gb263,1,none⟩ = some (.slice A0_1 l0_1.length c0_1):=(kC BK263.out 1).trans rfl
      have hcz18_2 : wr.cell? ⟨gb263,2,none⟩ = some (.int .i64 a0_2):=(kC BK263.out 2).trans rfl
      have hcz18_3 : wr.cell? ⟨gb263,3,none⟩ = some (.int .i64 a0_3):=(kC BK263.out 3).trans rfl
      have hcz18_4 : wr.cell? ⟨gb263,4,none⟩ = some (.int .i64 a0_4):=(kC BK263.out 4).trans rfl
      have hfz18_0:=kF BK263.out 0
      have hfz18_1:=kF BK263.out 1
      have hfz18_2:=kF BK263.out 2
      have hfz18_3:=kF BK263.out 3
      have hfz18_4:=kF BK263.out 4
      have p266 : 0 ≤ ((ji15) : Int):=of_decide_eq_true (by first|(with_reducible assumption)|assumption)
      have q266 : (ji15) < (l0_0.length : Int):=of_decide_eq_true (by first|(with_reducible assumption)|assumption)
      obtain ⟨ad266,e266,hx266_0,hx266_1⟩:=at_T71 HR0_0.out (ji15) p266 q266
      cases e266
      replace hx266_0:=(HB.out.cell (World.block_lt_of_cell? w _ hx266_0)).trans hx266_0
      replace hx266_1:=(HB.out.cell (World.block_lt_of_cell? w _ hx266_1)).trans hx266_1
      replace p266:=eq_true p266
      replace q266:=eq_true q266
      go_wp2
      go_ret
      exact ⟨by first|rfl|(simp [errW_none,errW_some] <;> rfl)|(simp only [← hji15];first|rfl|(simp [errW_none,errW_some] <;> rfl))|(simp [*,errW_none,errW_some] <;> rfl),by repeat (first|(with_reducible first|exact HB.out|apply bA|apply bN|apply bD|refine bS ?_ GE263.out)|exact HB.out)⟩
     ·rw [if_neg c17] at H
      exact absurd H (by simp)
    ·rw [if_neg c16] at H
     exact absurd H (by simp)

/-! ### impl_BrakeAt: function 22 -/
def impl_BrakeAt.f (k : Nat) (l0_0 : List (S71)) (l0_1 : List (S75)) (a0_2 : Int) (a0_3 : Int) (a0_4 : Int) (a1 : Int) : Option (Int):=(impl_right.f k l0_0 l0_1 a0_2 a0_3 a0_4 a1).bind fun t268 => (if t268 = true then ((impl_brakeAt.f k l0_0 l0_1 a0_2 a0_3 a0_4 a1).bind fun t269 => (some t269)) else (some (-1)))
theorem impl_BrakeAt.mono : ∀ a0 a1 a2 a3 a4 a5 k,LeO (impl_BrakeAt.f k a0 a1 a2 a3 a4 a5) (impl_BrakeAt.f (k + 1) a0 a1 a2 a3 a4 a5):=by
 intro a0 a1 a2 a3 a4 a5 k
 unfold impl_BrakeAt.f
 repeat' first
   | (with_reducible exact impl_brakeAt.mono _ _ _ _ _ _ _)
   | (with_reducible exact impl_right.mono _ _ _ _ _ _ _)
   | (with_reducible exact LeO.refl _)
   | (with_reducible exact LeO.none _)
   | (with_reducible refine LeO.ite ?_ ?_)
   | (with_reducible refine LeO.bind ?_ (fun _ => ?_))
   | exact impl_brakeAt.mono _ _ _ _ _ _ _
   | exact impl_right.mono _ _ _ _ _ _ _
   | exact LeO.none _
   | refine LeO.ite ?_ ?_
   | refine LeO.bind ?_ (fun _ => ?_)
set_option maxHeartbeats 8000000 in
set_option maxRecDepth 100000 in
theorem impl_BrakeAt.calls (k : Nat) (A0_0 : Option Addr) (c0_0 : Nat) (l0_0 : List (S71)) (A0_1 : Option Addr) (c0_1 : Nat) (l0_1 : List (S75)) (a0_2 : Int) (a0_3 : Int) (a0_4 : Int) (a1 : Int) (r : Int) (w : World) (hr0_0 : Kd.C k71 w A0_0 l0_0.length l0_0) (hc0_0 : l0_0.length ≤ c0_0) (hr0_1 : Kd.C k75 w A0_1 l0_1.length l0_1) (hc0_1 : l0_1.length ≤ c0_1) (h : impl_BrakeAt.f k l0_0 l0_1 a0_2 a0_3 a0_4 a1 = some r) :
  Calls Try.prog 22 #[.agg #[.slice A0_0 l0_0.length c0_0,.slice A0_1 l0_1.length c0_1,.int .i64 a0_2,.int .i64 a0_3,.int .i64 a0_4],.int .i64 a1] w fun e w' => e = .returned (.int .i64 r)∧Below w.heap.size w w':=by
 have hu31:=Try.underlying31
 have HR0_0:=Am hr0_0
 have HC0_0:=Am hc0_0
 clear hr0_0 hc0_0
 have HR0_1:=Am hr0_1
 have HC0_1:=Am hc0_1
 clear hr0_1 hc0_1
 have HB:=Am (Below.refl w.heap.size w)
 have H : ((impl_right.f k l0_0 l0_1 a0_2 a0_3 a0_4 a1).bind fun t268 => (if t268 = true then ((impl_brakeAt.f k l0_0 l0_1 a0_2 a0_3 a0_4 a1).bind fun t269 => (some t269)) else (some (-1)))) = some r:=h
 clear h
 replace H:=Option.bind_eq_some_iff.mp H
 obtain ⟨t268,A30,H⟩:=H
 replace H : (if t268 = true then ((impl_brakeAt.f k l0_0 l0_1 a0_2 a0_3 a0_4 a1).bind fun t269 => (some t269)) else (some (-1))) = some r:=H
 have A3:=Am A30
 clear A30
 by_cases c4 : t268 = true
 ·subst c4
  have H1 : ((impl_brakeAt.f k l0_0 l0_1 a0_2 a0_3 a0_4 a1).bind fun t269 => (some t269)) = some r:=by rw [if_pos rfl] at H;exact H
  clear H
  have H:=H1
  clear H1
  replace H:=Option.bind_eq_some_iff.mp H
  obtain ⟨t269,A50,H⟩:=H
  replace H : (some t269) = some r:=H
  have A5:=Am A50
  clear A50
  obtain rfl:=Option.some.inj H
  go_enter Try.func22,Try.ntmps22
  go_wp2_with (first|((with_reducible refine gate_dst (N:=2) rfl ?_);refine box_event ?hg (N:=2) ?hd (cs:=#[.slice A0_0 l0_0.length c0_0,.slice A0_1 l0_1.length c0_1,.int .i64 a0_2,.int .i64 a0_3,.int .i64 a0_4]) (t:=31) ?hr ?_;(case hd => rfl);(case hg => rfl);(case hr => first|(go_simp;done)|(go_simp;rfl));intro gb267 hg w6 hbox hb;have n0_:=Am (below_step (by repeat (first|(with_reducible first|exact HB.out|apply bA|apply bN|apply bD)|exact HB.out)) hb);have n1_:=Am (hbox);have n2_:=Am ((by rw [hg];exact (below_size (by repeat (first|(with_reducible first|exact HB.out|apply bA|apply bN|apply bD)|exact HB.out))) : w.heap.size ≤ gb267));have n3_:=Am ((by rw [hg];exact (below_size (by repeat (first|(with_reducible first|exact HB.out|apply bA|apply bN|apply bD)|exact HB.out))) : w.heap.size ≤ gb267));clear HB;have HB:=n0_;have BK267:=n1_;have GW267:=n2_;have GE267:=n3_;clear n0_ n1_ n2_ n3_;clear hb hbox hg;have hcz7_0 : w6.cell? ⟨gb267,0,none⟩ = some (.slice A0_0 l0_0.length c0_0):=(kC BK267.out 0).trans rfl;have hcz7_1 : w6.cell? ⟨gb267,1,none⟩ = some (.slice A0_1 l0_1.length c0_1):=(kC BK267.out 1).trans rfl;have hcz7_2 : w6.cell? ⟨gb267,2,none⟩ = some (.int .i64 a0_2):=(kC BK267.out 2).trans rfl;have hcz7_3 : w6.cell? ⟨gb267,3,none⟩ = some (.int .i64 a0_3):=(kC BK267.out 3).trans rfl;have hcz7_4 : w6.cell? ⟨gb267,4,none⟩ = some (.int .i64 a0_4):=(kC BK267.out 4).trans rfl;have hfz7_0:=kF BK267.out 0;have hfz7_1:=kF BK267.out 1;have hfz7_2:=kF BK267.out 2;have hfz7_3:=kF BK267.out 3;have hfz7_4:=kF BK267.out 4)|((with_reducible refine gate_callee (f:=68) rfl ?_);refine goesL_ (some 7) rfl rfl Try.func68 (by kernel_rfl) rfl #[.agg #[.slice A0_0 l0_0.length c0_0,.slice A0_1 l0_1.length c0_1,.int .i64 a0_2,.int .i64 a0_3,.int .i64 a0_4],.int .i64 a1] rfl (by (try simp only [List.map_toArray,List.map_cons,List.map_nil]);first|done|rfl|(simp only [List.length_drop,List.length_take];rfl)) ?_;(with_reducible refine (impl_right.calls k _ _ l0_0 _ _ l0_1 a0_2 a0_3 a0_4 a1 true _ ?side1 ?side2 ?side3 ?side4 A3.out).mono ?_);(case side1 => repeat (first|exact (Kd.C_below HR0_0.out HB.out)|(with_reducible refine Kd.C_alloc ?_ _)|(with_reducible refine Kd.C_drewN ?_ _)|(with_reducible refine Kd.C_drew ?_)));(case side2 => exact HC0_0.out);(case side3 => repeat (first|exact (Kd.C_below HR0_1.out HB.out)|(with_reducible refine Kd.C_alloc ?_ _)|(with_reducible refine Kd.C_drewN ?_ _)|(with_reducible refine Kd.C_drew ?_)));(case side4 => exact HC0_1.out);rintro e w8 ⟨rfl,hb⟩;refine ⟨_,rfl,?_⟩;have n0_:=Am (blk_below (g:=gb267) (o:=.cells #[.slice A0_0 l0_0.length c0_0,.slice A0_1 l0_1.length c0_1,.int .i64 a0_2,.int .i64 a0_3,.int .i64 a0_4] 31 (0,0)) (by (with_reducible repeat (first|refine kN ?_ _|refine kD ?_|refine kA ?_ _));exact BK267.out) hb);have n1_:=Am (below_step (by repeat (first|(with_reducible first|exact HB.out|apply bA|apply bN|apply bD|refine bS ?_ GE267.out)|exact HB.out)) hb);clear BK267;clear HB;have BK267:=n0_;have HB:=n1_;clear n0_ n1_;(try clear hb);(try clear hb2);(try clear hk);(try clear hi);have hcz9_0 : w8.cell? ⟨gb267,0,none⟩ = some (.slice A0_0 l0_0.length c0_0):=(kC BK267.out 0).trans rfl;have hcz9_1 : w8.cell? ⟨gb267,1,none⟩ = some (.slice A0_1 l0_1.length c0_1):=(kC BK267.out 1).trans rfl;have hcz9_2 : w8.cell? ⟨gb267,2,none⟩ = some (.int .i64 a0_2):=(kC BK267.out 2).trans rfl;have hcz9_3 : w8.cell? ⟨gb267,3,none⟩ = some (.int .i64 a0_3):=(kC BK267.out 3).trans rfl;have hcz9_4 : w8.cell? ⟨gb267,4,none⟩ = some (.int .i64 a0_4):=(kC BK267.out 4).trans rfl;have hfz9_0:=kF BK267.out 0;have hfz9_1:=kF BK267.out 1;have hfz9_2:=kF BK267.out 2;have hfz9_3:=kF BK267.out 3;have hfz9_4:=kF BK267.out 4)|((with_reducible refine gate_callee (f:=71) rfl ?_);refine goesL_ (some 11) rfl rfl Try.func71 (by kernel_rfl) rfl #[.agg #[.slice A0_0 l0_0.length c0_0,.slice A0_1 l0_1.length c0_1,.int .i64 a0_2,.int .i64 a0_3,.int .i64 a0_4],.int .i64 a1] rfl (by (try simp only [List.map_toArray,List.map_cons,List.map_nil]);first|done|rfl|(simp only [List.length_drop,List.length_take];rfl)) ?_;(with_reducible refine (impl_brakeAt.calls k _ _ l0_0 _ _ l0_1 a0_2 a0_3 a0_4 a1 t269 _ ?side1 ?side2 ?side3 ?side4 A5.out).mono ?_);(case side1 => repeat (first|exact (Kd.C_below HR0_0.out HB.out)|(with_reducible refine Kd.C_alloc ?_ _)|(with_reducible refine Kd.C_drewN ?_ _)|(with_reducible refine Kd.C_drew ?_)));(case side2 => exact HC0_0.out);(case side3 => repeat (first|exact (Kd.C_below HR0_1.out HB.out)|(with_reducible refine Kd.C_alloc ?_ _)|(with_reducible refine Kd.C_drewN ?_ _)|(with_reducible refine Kd.C_drew ?_)));(case side4 => exact HC0_1.out);rintro e w10 ⟨rfl,hb⟩;refine ⟨_,rfl,?_⟩;have n0_:=Am (blk_below (g:=gb267) (o:=.cells #[.slice A0_0 l0_0.length c0_0,.slice A0_1 l0_1.length c0_1,.int .i64 a0_2,.int .i64 a0_3,.int .i64 a0_4] 31 (0,0)) (by (with_reducible repeat (first|refine kN ?_ _|refine kD ?_|refine kA ?_ _));exact BK267.out) hb);have n1_:=Am (below_step (by repeat (first|(with_reducible first|exact HB.out|apply bA|apply bN|apply bD|refine bS ?_ GE267.out)|exact HB.out)) hb);clear BK267;clear HB;have BK267:=n0_;have HB:=n1_;clear n0_ n1_;(try clear hb);(try clear hb2);(try clear hk);(try clear hi)))
  go_ret
  exact ⟨by first|rfl|(simp [errW_none,errW_some] <;> rfl)|(simp [*,errW_none,errW_some] <;> rfl),by repeat (first|(with_reducible first|exact HB.out|apply bA|apply bN|apply bD|refine bS ?_ GE267.out)|exact HB.out)⟩
 ·replace c4:=Bool.eq_false_iff.mpr c4
  subst c4
  have H1 : (some (-1)) = some r:=by rw [if_neg (show ¬ (false = true) by decide)] at H;exact H
  clear H
  have H:=H1
  clear H1
  obtain rfl:=Option.some.inj H
  go_enter Try.func22,Try.ntmps22
  go_wp2_with (first|((with_reducible refine gate_dst (N:=2) rfl ?_);refine box_event ?hg (N:=2) ?hd (cs:=#[.slice A0_0 l0_0.length c0_0,.slice A0_1 l0_1.length c0_1,.int .i64 a0_2,.int .i64 a0_3,.int .i64 a0_4]) (t:=31) ?hr ?_;(case hd => rfl);(case hg => rfl);(case hr => first|(go_simp;done)|(go_simp;rfl));intro gb267 hg w11 hbox hb;have n0_:=Am (below_step (by repeat (first|(with_reducible first|exact HB.out|apply bA|apply bN|apply bD)|exact HB.out)) hb);have n1_:=Am (hbox);have n2_:=Am ((by rw [hg];exact (below_size (by repeat (first|(with_reducible first|exact HB.out|apply bA|apply bN|apply bD)|exact HB.out))) : w.heap.size ≤ gb267));have n3_:=Am ((by rw [hg];exact (below_size (by repeat (first|(with_reducible first|exact HB.out|apply bA|apply bN|apply bD)|exact HB.out))) : w.heap.size ≤ gb267));clear HB;have HB:=n0_;have BK267:=n1_;have GW267:=n2_;have GE267:=n3_;clear n0_ n1_ n2_ n3_;clear hb hbox hg;have hcz12_0 : w11.cell? ⟨gb267,0,none⟩ = some (.slice A0_0 l0_0.length c0_0):=(kC BK267.out 0).trans rfl;have hcz12_1 : w11.cell? ⟨gb267,1,none⟩ = some (.slice A0_1 l0_1.length c0_1):=(kC BK267.out 1).trans rfl;have hcz12_2 : w11.cell? ⟨gb267,2,none⟩ = some (.int .i64 a0_2):=(kC BK267.out 2).trans rfl;have hcz12_3 : w11.cell? ⟨gb267,3,none⟩ = some (.int .i64 a0_3):=(kC BK267.out 3).trans rfl;have hcz12_4 : w11.cell? ⟨gb267,4,none⟩ = some (.int .i64 a0_4):=(kC BK267.out 4).trans rfl;have hfz12_0:=kF BK267.out 0;have hfz12_1:=kF BK267.out 1;have hfz12_2:=kF BK267.out 2;have hfz12_3:=kF BK267.out 3;have hfz12_4:=kF BK267.out 4)|((with_reducible refine gate_callee (f:=68) rfl ?_);refine goesL_ (some 7) rfl rfl Try.func68 (by kernel_rfl) rfl #[.agg #[.slice A0_0 l0_0.length c0_0,.slice A0_1 l0_1.length c0_1,.int .i64 a0_2,.int .i64 a0_3,.int .i64 a0_4],.int .i64 a1] rfl (by (try simp only [List.map_toArray,List.map_cons,List.map_nil]);first|done|rfl|(simp only [List.length_drop,List.length_take];rfl)) ?_;(with_reducible refine (impl_right.calls k _ _ l0_0 _ _ l0_1 a0_2 a0_3 a0_4 a1 false _ ?side1 ?side2 ?side3 ?side4 A3.out).mono ?_);(case side1 => repeat (first|exact (Kd.C_below HR0_0.out HB.out)|(with_reducible refine Kd.C_alloc ?_ _)|(with_reducible refine Kd.C_drewN ?_ _)|(with_reducible refine Kd.C_drew ?_)));(case side2 => exact HC0_0.out);(case side3 => repeat (first|exact (Kd.C_below HR0_1.out HB.out)|(with_reducible refine Kd.C_alloc ?_ _)|(with_reducible refine Kd.C_drewN ?_ _)|(with_reducible refine Kd.C_drew ?_)));(case side4 => exact HC0_1.out);rintro e w13 ⟨rfl,hb⟩;refine ⟨_,rfl,?_⟩;have n0_:=Am (blk_below (g:=gb267) (o:=.cells #[.slice A0_0 l0_0.length c0_0,.slice A0_1 l0_1.length c0_1,.int .i64 a0_2,.int .i64 a0_3,.int .i64 a0_4] 31 (0,0)) (by (with_reducible repeat (first|refine kN ?_ _|refine kD ?_|refine kA ?_ _));exact BK267.out) hb);have n1_:=Am (below_step (by repeat (first|(with_reducible first|exact HB.out|apply bA|apply bN|apply bD|refine bS ?_ GE267.out)|exact HB.out)) hb);clear BK267;clear HB;have BK267:=n0_;have HB:=n1_;clear n0_ n1_;(try clear hb);(try clear hb2);(try clear hk);(try clear hi)))
  go_ret
  exact ⟨by first|rfl|(simp [errW_none,errW_some] <;> rfl)|(simp [*,errW_none,errW_some] <;> rfl),by repeat (first|(with_reducible first|exact HB.out|apply bA|apply bN|apply bD|refine bS ?_ GE267.out)|exact HB.out)⟩

end Go.Proofs.Ytgakkndbcilclaa.PA
