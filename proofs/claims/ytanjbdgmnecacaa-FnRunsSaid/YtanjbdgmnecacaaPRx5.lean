-- Written by a program of this session (wip/print/myprint.py) over the kit's print, with contracts of its own; not a text of print.sh's.
import Derived.Test.YtanjbdgmnecacaaPRx0
namespace Go.Proofs.Ytanjbdgmnecacaa.PR
open Go.RowKit Go.Proofs.YtanjbdgmnecacaaW.PrintWords Go.Proofs.YtanjbdgmnecacaaW.PrintLast Go.Proofs.YtanjbdgmnecacaaW.PrintMore
attribute [local go_sem] max2_int min2_int max_two min_two   -- for this text's walks alone
set_option linter.unusedVariables false
set_option linter.unusedSimpArgs false

/-! ### spec_l2rate: function 40 -/
def spec_l2rate.l0 : Nat → Int → Int → List (S39) → Int → Int → List (S39) → List (S45) → Int → Int → Int → Option (Int)
 | 0,_,_,_,_,_,_,_,_,_,_ => none
 | k + 1,x1,x5,x9,x10,x11,x131000,x131001,x131002,x131003,x131004 => if x11 < x10 then (if 0 ≤ x11 then (if x11 < (x9.length : Int) then (if x1 < (wrap64 (x5 + ((rd_T39 x9 x11).f0))) then (some ((rd_T39 x9 x11).f1)) else (spec_l2rate.l0 k x1 (wrap64 (x5 + ((rd_T39 x9 x11).f0))) x9 x10 (wrap64 (x11 + 1)) x131000 x131001 x131002 x131003 x131004)) else (none)) else (none)) else (if 0 ≤ (wrap64 ((x131000.length : Int) - 1)) then (if (wrap64 ((x131000.length : Int) - 1)) < (x131000.length : Int) then (some ((rd_T39 x131000 (wrap64 ((x131000.length : Int) - 1))).f1)) else (none)) else (none))
def spec_l2rate.f (k : Nat) (l0_0 : List (S39)) (l0_1 : List (S45)) (a0_2 : Int) (a0_3 : Int) (a0_4 : Int) (a1 : Int) : Option (Int):=spec_l2rate.l0 k a1 0 l0_0 (l0_0.length : Int) 0 l0_0 l0_1 a0_2 a0_3 a0_4
theorem spec_l2rate.mono_l : ∀ k,(∀ y0 y1 y2 y3 y4 y5 y6 y7 y8 y9,LeO (spec_l2rate.l0 k y0 y1 y2 y3 y4 y5 y6 y7 y8 y9) (spec_l2rate.l0 (k + 1) y0 y1 y2 y3 y4 y5 y6 y7 y8 y9))
 | 0 => fun _ _ _ _ _ _ _ _ _ _ r h => by simp [spec_l2rate.l0] at h
 | k + 1 => by
  have ih0:=spec_l2rate.mono_l k
  ·intro y0 y1 y2 y3 y4 y5 y6 y7 y8 y9;unfold spec_l2rate.l0
   repeat' first
   | (with_reducible exact ih0 _ _ _ _ _ _ _ _ _ _)
   | (with_reducible exact LeO.refl _)
   | (with_reducible exact LeO.none _)
   | (with_reducible refine LeO.ite ?_ ?_)
   | (with_reducible refine LeO.bind ?_ (fun _ => ?_))
   | exact ih0 _ _ _ _ _ _ _ _ _ _
   | exact LeO.none _
   | refine LeO.ite ?_ ?_
   | refine LeO.bind ?_ (fun _ => ?_)
theorem spec_l2rate.mono : ∀ a0 a1 a2 a3 a4 a5 k,LeO (spec_l2rate.f k a0 a1 a2 a3 a4 a5) (spec_l2rate.f (k + 1) a0 a1 a2 a3 a4 a5):=by
 intro a0 a1 a2 a3 a4 a5 k;have ih0:=spec_l2rate.mono_l k;unfold spec_l2rate.f
 repeat' first
   | (with_reducible exact ih0 _ _ _ _ _ _ _ _ _ _)
   | (with_reducible exact LeO.refl _)
   | (with_reducible exact LeO.none _)
   | (with_reducible refine LeO.ite ?_ ?_)
   | (with_reducible refine LeO.bind ?_ (fun _ => ?_))
   | exact ih0 _ _ _ _ _ _ _ _ _ _
   | exact LeO.none _
   | refine LeO.ite ?_ ?_
   | refine LeO.bind ?_ (fun _ => ?_)
set_option maxHeartbeats 8000000 in
set_option maxRecDepth 100000 in
theorem spec_l2rate.calls (k : Nat) (A0_0 : Option Addr) (c0_0 : Nat) (l0_0 : List (S39)) (A0_1 : Option Addr) (c0_1 : Nat) (l0_1 : List (S45)) (a0_2 : Int) (a0_3 : Int) (a0_4 : Int) (a1 : Int) (r : Int) (w : World) (hr0_0 : Kd.C k39 w A0_0 l0_0.length l0_0) (hc0_0 : l0_0.length ≤ c0_0) (hr0_1 : Kd.C k45 w A0_1 l0_1.length l0_1) (hc0_1 : l0_1.length ≤ c0_1) (h : spec_l2rate.f k l0_0 l0_1 a0_2 a0_3 a0_4 a1 = some r) :
  Calls Try.prog 40 #[.agg #[.slice A0_0 l0_0.length c0_0,.slice A0_1 l0_1.length c0_1,.int .i64 a0_2,.int .i64 a0_3,.int .i64 a0_4],.int .i64 a1] w fun e w' => e = .returned (.int .i64 r)∧Below w.heap.size w w':=by
 have hu26:=Try.underlying26;have hu39:=Try.underlying39;have HR0_0:=Am hr0_0;have HC0_0:=Am hc0_0;clear hr0_0 hc0_0;have HR0_1:=Am hr0_1;have HC0_1:=Am hc0_1;clear hr0_1 hc0_1;have HB:=Am (Below.refl w.heap.size w);have H : (spec_l2rate.l0 k a1 0 l0_0 (l0_0.length : Int) 0 l0_0 l0_1 a0_2 a0_3 a0_4) = some r:=h;clear h;have H':=Am H;clear H
 go_enter Try.func40,Try.ntmps40
 go_wp2_with (first|((with_reducible refine gate_dst (N:=2) rfl ?_);refine box_event ?hg (N:=2) ?hd (cs:=#[.slice A0_0 l0_0.length c0_0,.slice A0_1 l0_1.length c0_1,.int .i64 a0_2,.int .i64 a0_3,.int .i64 a0_4]) (t:=26) ?hr ?_;(case hd => rfl);(case hg => rfl);(case hr => first|(go_simp;done)|(go_simp;rfl));intro gb130 hg w3 hbox hb;have n0_:=Am (below_step (bL HB) hb);have n1_:=Am (hbox);have n2_:=Am ((by rw [hg];exact (below_size (bL HB)) : w.heap.size ≤ gb130));have n3_:=Am ((by rw [hg];exact (below_size (bL HB)) : w.heap.size ≤ gb130));clear HB;have HB:=n0_;have BK130:=n1_;have GW130:=n2_;have GE130:=n3_;clear n0_ n1_ n2_ n3_;clear hb hbox hg;have hcz4_0 : w3.cell? ⟨gb130,0,none⟩ = some (.slice A0_0 l0_0.length c0_0):=(kC BK130.out 0).trans rfl;have hcz4_1 : w3.cell? ⟨gb130,1,none⟩ = some (.slice A0_1 l0_1.length c0_1):=(kC BK130.out 1).trans rfl;have hcz4_2 : w3.cell? ⟨gb130,2,none⟩ = some (.int .i64 a0_2):=(kC BK130.out 2).trans rfl;have hcz4_3 : w3.cell? ⟨gb130,3,none⟩ = some (.int .i64 a0_3):=(kC BK130.out 3).trans rfl;have hcz4_4 : w3.cell? ⟨gb130,4,none⟩ = some (.int .i64 a0_4):=(kC BK130.out 4).trans rfl;have hfz4_0:=kF BK130.out 0;have hfz4_1:=kF BK130.out 1;have hfz4_2:=kF BK130.out 2;have hfz4_3:=kF BK130.out 3;have hfz4_4:=kF BK130.out 4))
 go_loopg [5,11] k (fun kq v5 v11 w' => ∃ (x5_1 : Int) (x11_1 : Int),v5 = .int .i64 x5_1∧v11 = .int .i64 x11_1∧As (spec_l2rate.l0 kq a1 x5_1 l0_0 (l0_0.length : Int) x11_1 l0_0 l0_1 a0_2 a0_3 a0_4 = some r)∧As (kq ≤ k)∧As (w'.heap[gb130]? = some (.cells #[(.slice A0_0 l0_0.length c0_0),(.slice A0_1 l0_1.length c0_1),.int .i64 a0_2,.int .i64 a0_3,.int .i64 a0_4] 26 (0,0)))∧As (Below w.heap.size w w'))
 case atStart => exact ⟨(0),(0),(by first|rfl|(simp;done)|(simp [*];done)),(by first|rfl|(simp;done)|(simp [*];done)),H',⟨Nat.le_refl _⟩,⟨kL BK130⟩,⟨bL HB⟩⟩
 case round =>
  clear H';(try clear p2);(try clear c4);(try clear hcz4_0);(try clear hcz4_1);(try clear hcz4_2);(try clear hcz4_3);(try clear hcz4_4);(try clear hfz4_0);(try clear hfz4_1);(try clear hfz4_2);(try clear hfz4_3);(try clear hfz4_4);obtain ⟨x5_1,x11_1,rfl,rfl,HA,HK1,BK130,HB⟩:=hrel
  cases gk with
  | zero => exact absurd HA.out (by simp [spec_l2rate.l0])
  | succ k1 =>
   have H:=HA.out;clear HA;simp only [spec_l2rate.l0] at H
   by_cases c5 : x11_1 < (l0_0.length : Int)
   ·rw [if_pos c5] at H;have c5b0 : decide (x11_1 < (l0_0.length : Int)) = true:=decide_eq_true c5;clear c5
    by_cases c6 : 0 ≤ x11_1
    ·rw [if_pos c6] at H;have c6b0 : decide (0 ≤ x11_1) = true:=decide_eq_true c6;clear c6
     by_cases c7 : x11_1 < (l0_0.length : Int)
     ·rw [if_pos c7] at H;have c7b0 : decide (x11_1 < (l0_0.length : Int)) = true:=decide_eq_true c7;clear c7
      by_cases c8 : a1 < (wrap64 (x5_1 + ((rd_T39 l0_0 x11_1).f0)))
      ·rw [if_pos c8] at H;have c8b0 : decide (a1 < (wrap64 (x5_1 + ((rd_T39 l0_0 x11_1).f0)))) = true:=decide_eq_true c8;clear c8;obtain rfl:=Option.some.inj H;have p131 : 0 ≤ (x11_1 : Int):=of_decide_eq_true (by first|(with_reducible assumption)|assumption);have q131 : x11_1 < (l0_0.length : Int):=of_decide_eq_true (by first|(with_reducible assumption)|assumption);obtain ⟨ad131,e131,hx131_0,hx131_1⟩:=at_T39 HR0_0.out x11_1 p131 q131;cases e131;replace hx131_0:=(HB.out.cell (World.block_lt_of_cell? w _ hx131_0)).trans hx131_0;replace hx131_1:=(HB.out.cell (World.block_lt_of_cell? w _ hx131_1)).trans hx131_1;replace p131:=eq_true p131;replace q131:=eq_true q131
       go_wp2_with (first|((with_reducible refine gate_dst (N:=7) rfl ?_);refine box_event ?hg (N:=7) ?hd (cs:=#[.int .i64 0,.int .i64 0]) (t:=39) ?hr ?_;(case hd => rfl);(case hg => rfl);(case hr => first|(go_simp;done)|(go_simp;rfl));intro gb132 hg w9 hbox hb;have n0_:=Am (blk_below (g:=gb130) (o:=.cells #[.slice (some ad131) l0_0.length c0_0,.slice A0_1 l0_1.length c0_1,.int .i64 a0_2,.int .i64 a0_3,.int .i64 a0_4] 26 (0,0)) (kL BK130) hb);have n1_:=Am (below_step (bL HB) hb);have n2_:=Am (hbox);have n3_:=Am ((by rw [hg];exact (below_size (bL HB)) : w.heap.size ≤ gb132));have n4_:=Am ((by rw [hg];exact (below_size (bL HB)) : w.heap.size ≤ gb132));have n5_:=Am ((by rw [hg];exact Nat.ne_of_lt (blk_lt (g:=gb130) (o:=.cells #[.slice (some ad131) l0_0.length c0_0,.slice A0_1 l0_1.length c0_1,.int .i64 a0_2,.int .i64 a0_3,.int .i64 a0_4] 26 (0,0)) (kL BK130)) : gb130 ≠ gb132));have n6_:=Am ((by rw [hg];exact Nat.ne_of_gt (blk_lt (g:=gb130) (o:=.cells #[.slice (some ad131) l0_0.length c0_0,.slice A0_1 l0_1.length c0_1,.int .i64 a0_2,.int .i64 a0_3,.int .i64 a0_4] 26 (0,0)) (kL BK130)) : gb132 ≠ gb130));clear BK130;clear HB;have BK130:=n0_;have HB:=n1_;have BK132:=n2_;have GW132:=n3_;have GE132:=n4_;have NB130_132:=n5_;have NB132_130:=n6_;clear n0_ n1_ n2_ n3_ n4_ n5_ n6_;clear hb hbox hg;have hnb10:=NB132_130.out;have hnc10:=NB130_132.out;have hcz11_0 : w9.cell? ⟨gb132,0,none⟩ = some (.int .i64 0):=(kC BK132.out 0).trans rfl;have hcz11_1 : w9.cell? ⟨gb132,1,none⟩ = some (.int .i64 0):=(kC BK132.out 1).trans rfl;have hfz11_0:=kF BK132.out 0;have hfz11_1:=kF BK132.out 1))
       go_ret;exact ⟨by first|rfl|(simp [errW_none,errW_some] <;> rfl)|(simp [*,errW_none,errW_some] <;> rfl),bL HB⟩
      ·rw [if_neg c8] at H;have c8b0 : decide (a1 < (wrap64 (x5_1 + ((rd_T39 l0_0 x11_1).f0)))) = false:=decide_eq_false c8;clear c8;have H':=Am H;clear H;have p131 : 0 ≤ (x11_1 : Int):=of_decide_eq_true (by first|(with_reducible assumption)|assumption);have q131 : x11_1 < (l0_0.length : Int):=of_decide_eq_true (by first|(with_reducible assumption)|assumption);obtain ⟨ad131,e131,hx131_0,hx131_1⟩:=at_T39 HR0_0.out x11_1 p131 q131;cases e131;replace hx131_0:=(HB.out.cell (World.block_lt_of_cell? w _ hx131_0)).trans hx131_0;replace hx131_1:=(HB.out.cell (World.block_lt_of_cell? w _ hx131_1)).trans hx131_1;replace p131:=eq_true p131;replace q131:=eq_true q131
       go_wp2_with (first|((with_reducible refine gate_dst (N:=7) rfl ?_);refine box_event ?hg (N:=7) ?hd (cs:=#[.int .i64 0,.int .i64 0]) (t:=39) ?hr ?_;(case hd => rfl);(case hg => rfl);(case hr => first|(go_simp;done)|(go_simp;rfl));intro gb132 hg w12 hbox hb;have n0_:=Am (blk_below (g:=gb130) (o:=.cells #[.slice (some ad131) l0_0.length c0_0,.slice A0_1 l0_1.length c0_1,.int .i64 a0_2,.int .i64 a0_3,.int .i64 a0_4] 26 (0,0)) (kL BK130) hb);have n1_:=Am (below_step (bL HB) hb);have n2_:=Am (hbox);have n3_:=Am ((by rw [hg];exact (below_size (bL HB)) : w.heap.size ≤ gb132));have n4_:=Am ((by rw [hg];exact (below_size (bL HB)) : w.heap.size ≤ gb132));have n5_:=Am ((by rw [hg];exact Nat.ne_of_lt (blk_lt (g:=gb130) (o:=.cells #[.slice (some ad131) l0_0.length c0_0,.slice A0_1 l0_1.length c0_1,.int .i64 a0_2,.int .i64 a0_3,.int .i64 a0_4] 26 (0,0)) (kL BK130)) : gb130 ≠ gb132));have n6_:=Am ((by rw [hg];exact Nat.ne_of_gt (blk_lt (g:=gb130) (o:=.cells #[.slice (some ad131) l0_0.length c0_0,.slice A0_1 l0_1.length c0_1,.int .i64 a0_2,.int .i64 a0_3,.int .i64 a0_4] 26 (0,0)) (kL BK130)) : gb132 ≠ gb130));clear BK130;clear HB;have BK130:=n0_;have HB:=n1_;have BK132:=n2_;have GW132:=n3_;have GE132:=n4_;have NB130_132:=n5_;have NB132_130:=n6_;clear n0_ n1_ n2_ n3_ n4_ n5_ n6_;clear hb hbox hg;have hnb13:=NB132_130.out;have hnc13:=NB130_132.out;have hcz14_0 : w12.cell? ⟨gb132,0,none⟩ = some (.int .i64 0):=(kC BK132.out 0).trans rfl;have hcz14_1 : w12.cell? ⟨gb132,1,none⟩ = some (.int .i64 0):=(kC BK132.out 1).trans rfl;have hfz14_0:=kF BK132.out 0;have hfz14_1:=kF BK132.out 1))
       go_roundg k1
       case measure => have:=HK1.out;omega
       case rel => exact ⟨(wrap64 (x5_1 + ((rd_T39 l0_0 x11_1).f0))),(wrap64 (x11_1 + 1)),(by first|rfl|(simp;done)|(simp [*];done)),(by first|rfl|(simp;done)|(simp [*];done)),H',⟨by have:=HK1.out;omega⟩,⟨by (with_reducible repeat (first|refine kN ?_ _|refine kD ?_|refine kA ?_ _));refine blk_far ?_ NB130_132.out _;(with_reducible repeat (first|refine kN ?_ _|refine kD ?_|refine kA ?_ _));refine blk_far ?_ NB130_132.out _;(with_reducible repeat (first|refine kN ?_ _|refine kD ?_|refine kA ?_ _));exact BK130.out⟩,⟨bL HB⟩⟩
     ·rw [if_neg c7] at H;exact absurd H (by simp)
    ·rw [if_neg c6] at H;exact absurd H (by simp)
   ·rw [if_neg c5] at H;have c5b0 : decide (x11_1 < (l0_0.length : Int)) = false:=decide_eq_false c5;clear c5
    obtain ⟨ji15,hji15⟩ : ∃ j_ : Int,(wrap64 ((l0_0.length : Int) - 1)) = j_:=⟨_,rfl⟩
    replace H : (if 0 ≤ (ji15) then (if (ji15) < (l0_0.length : Int) then (some ((rd_T39 l0_0 (ji15)).f1)) else (none)) else (none)) = some r:=by first|(rw [hji15] at H;exact H)|(simp only [hji15] at H ⊢;exact H)
    have hji15w : (IntKind.i64.wrap ((l0_0.length : Int) - 1)) = ji15:=(i64_w _).trans hji15
    by_cases c16 : 0 ≤ (ji15)
    ·rw [if_pos c16] at H;have c16b0 : decide (0 ≤ (ji15)) = true:=decide_eq_true c16;clear c16
     by_cases c17 : (ji15) < (l0_0.length : Int)
     ·rw [if_pos c17] at H;have c17b0 : decide ((ji15) < (l0_0.length : Int)) = true:=decide_eq_true c17;clear c17;obtain rfl:=Option.some.inj H;have hcz18_0 : wr.cell? ⟨gb130,0,none⟩ = some (.slice A0_0 l0_0.length c0_0):=(kC BK130.out 0).trans rfl;have hcz18_1 : wr.cell? ⟨gb130,1,none⟩ = some (.slice A0_1 l0_1.length c0_1):=(kC BK130.out 1).trans rfl;have hcz18_2 : wr.cell? ⟨gb130,2,none⟩ = some (.int .i64 a0_2):=(kC BK130.out 2).trans rfl;have hcz18_3 : wr.cell? ⟨gb130,3,none⟩ = some (.int .i64 a0_3):=(kC BK130.out 3).trans rfl;have hcz18_4 : wr.cell? ⟨gb130,4,none⟩ = some (.int .i64 a0_4):=(kC BK130.out 4).trans rfl;have hfz18_0:=kF BK130.out 0;have hfz18_1:=kF BK130.out 1;have hfz18_2:=kF BK130.out 2;have hfz18_3:=kF BK130.out 3;have hfz18_4:=kF BK130.out 4;have p133 : 0 ≤ ((ji15) : Int):=of_decide_eq_true (by first|(with_reducible assumption)|assumption);have q133 : (ji15) < (l0_0.length : Int):=of_decide_eq_true (by first|(with_reducible assumption)|assumption);obtain ⟨ad133,e133,hx133_0,hx133_1⟩:=at_T39 HR0_0.out (ji15) p133 q133;cases e133;replace hx133_0:=(HB.out.cell (World.block_lt_of_cell? w _ hx133_0)).trans hx133_0;replace hx133_1:=(HB.out.cell (World.block_lt_of_cell? w _ hx133_1)).trans hx133_1;replace p133:=eq_true p133;replace q133:=eq_true q133;go_wp2;go_ret;exact ⟨by first|rfl|(simp [errW_none,errW_some] <;> rfl)|(simp only [← hji15];first|rfl|(simp [errW_none,errW_some] <;> rfl))|(simp [*,errW_none,errW_some] <;> rfl),bL HB⟩
     ·rw [if_neg c17] at H;exact absurd H (by simp)
    ·rw [if_neg c16] at H;exact absurd H (by simp)

end Go.Proofs.Ytanjbdgmnecacaa.PR
