-- Written by a program of this session (wip/print/myprint.py) over the kit's print, with contracts of its own; not a text of print.sh's.
import Derived.Test.YtanjbdgmnecacaaDoorPTx0
namespace Go.Proofs.YtanjbdgmnecacaaDoor.PT
open Go.RowKit Go.Proofs.YtanjbdgmnecacaaDoorW.PrintWords Go.Proofs.YtanjbdgmnecacaaDoorW.PrintLast Go.Proofs.YtanjbdgmnecacaaDoorW.PrintMore
attribute [local go_sem] max2_int min2_int max_two min_two   -- for this text's walks alone
set_option linter.unusedVariables false
set_option linter.unusedSimpArgs false

/-! ### spec_l1in: function 34 -/
def spec_l1in.f (a0 : Int) (a1 : Int) (a2 : Int) : Option (Bool):=if a0 ≥ a1 then (some (decide (a0 ≤ a2))) else (some false)
set_option maxHeartbeats 8000000 in
set_option maxRecDepth 100000 in
theorem spec_l1in.calls (a0 : Int) (a1 : Int) (a2 : Int) (r : Bool) (w : World) (h : spec_l1in.f a0 a1 a2 = some r) :
  Calls Tryd.prog 34 #[.int .i64 a0,.int .i64 a1,.int .i64 a2] w fun e w' => e = .returned (.bool r)∧Drawn0 w w':=by
 have H : (if a0 ≥ a1 then (some (decide (a0 ≤ a2))) else (some false)) = some r:=h;clear h
 by_cases c4 : a0 ≥ a1
 ·rw [if_pos c4] at H;have c4b0 : decide (a1 ≤ a0) = true:=decide_eq_true c4;clear c4;obtain rfl:=Option.some.inj H
  go_enter Tryd.func34,Tryd.ntmps34
  go_wp2;go_ret;exact ⟨by first|rfl|(simp;done)|(simp [*];done),by repeat (first|exact Drawn0.refl _|apply Drawn0.step)⟩
 ·rw [if_neg c4] at H;have c4b0 : decide (a1 ≤ a0) = false:=decide_eq_false c4;clear c4;obtain rfl:=Option.some.inj H
  go_enter Tryd.func34,Tryd.ntmps34
  go_wp2;go_ret;exact ⟨by first|rfl|(simp;done)|(simp [*];done),by repeat (first|exact Drawn0.refl _|apply Drawn0.step)⟩

/-! ### spec_l1brakes: function 35 -/
def spec_l1brakes.f (a0 : Int) : Option (Bool):=(spec_l1in.f a0 10 1000).bind fun t252 => (some t252)
set_option maxHeartbeats 8000000 in
set_option maxRecDepth 100000 in
theorem spec_l1brakes.calls (a0 : Int) (r : Bool) (w : World) (h : spec_l1brakes.f a0 = some r) :
  Calls Tryd.prog 35 #[.int .i64 a0] w fun e w' => e = .returned (.bool r)∧Drawn0 w w':=by
 have H : ((spec_l1in.f a0 10 1000).bind fun t252 => (some t252)) = some r:=h;clear h;replace H:=Option.bind_eq_some_iff.mp H;obtain ⟨t252,A20,H⟩:=H;have A2:=Am A20;clear A20;obtain rfl:=Option.some.inj H
 go_enter Tryd.func35,Tryd.ntmps35
 go_wp2_with (first|((with_reducible refine gate_callee (f:=34) rfl ?_);refine goesL_ (some 4) rfl rfl Tryd.func34 (by kernel_rfl) rfl #[.int .i64 a0,.int .i64 10,.int .i64 1000] rfl lA ?_;(with_reducible refine (spec_l1in.calls a0 10 1000 t252 _ A2.out).mono ?_);rintro e w' ⟨rfl,⟨nd,rfl⟩⟩;refine ⟨_,rfl,?_⟩))
 go_ret;exact ⟨by first|rfl|(simp;done)|(simp [*];done),by repeat (first|exact Drawn0.refl _|apply Drawn0.step)⟩

/-! ### spec_l2total: function 36 -/
def spec_l2total.l0 : Nat → Int → List (S49) → Int → Int → Option (Int)
 | 0,_,_,_,_ => none
 | k + 1,x3,x7,x8,x9 => if x9 < x8 then (if 0 ≤ x9 then (if x9 < (x7.length : Int) then (spec_l2total.l0 k (wrap64 (x3 + ((rd_T49 x7 x9).f0))) x7 x8 (wrap64 (x9 + 1))) else (none)) else (none)) else (some x3)
def spec_l2total.f (k : Nat) (l0_0 : List (S49)) (l0_1 : List (S56)) (a0_2 : Int) (a0_3 : Int) (a0_4 : Int) : Option (Int):=spec_l2total.l0 k 0 l0_0 (l0_0.length : Int) 0
theorem spec_l2total.mono_l : ∀ k,(∀ y0 y1 y2 y3,LeO (spec_l2total.l0 k y0 y1 y2 y3) (spec_l2total.l0 (k + 1) y0 y1 y2 y3))
 | 0 => fun _ _ _ _ r h => by simp [spec_l2total.l0] at h
 | k + 1 => by
  have ih0:=spec_l2total.mono_l k
  ·intro y0 y1 y2 y3;unfold spec_l2total.l0
   repeat' first
   | (with_reducible exact ih0 _ _ _ _)
   | (with_reducible exact LeO.refl _)
   | (with_reducible exact LeO.none _)
   | (with_reducible refine LeO.ite ?_ ?_)
   | (with_reducible refine LeO.bind ?_ (fun _ => ?_))
   | exact ih0 _ _ _ _
   | exact LeO.none _
   | refine LeO.ite ?_ ?_
   | refine LeO.bind ?_ (fun _ => ?_)
theorem spec_l2total.mono : ∀ a0 a1 a2 a3 a4 k,LeO (spec_l2total.f k a0 a1 a2 a3 a4) (spec_l2total.f (k + 1) a0 a1 a2 a3 a4):=by
 intro a0 a1 a2 a3 a4 k;have ih0:=spec_l2total.mono_l k;unfold spec_l2total.f
 repeat' first
   | (with_reducible exact ih0 _ _ _ _)
   | (with_reducible exact LeO.refl _)
   | (with_reducible exact LeO.none _)
   | (with_reducible refine LeO.ite ?_ ?_)
   | (with_reducible refine LeO.bind ?_ (fun _ => ?_))
   | exact ih0 _ _ _ _
   | exact LeO.none _
   | refine LeO.ite ?_ ?_
   | refine LeO.bind ?_ (fun _ => ?_)
set_option maxHeartbeats 8000000 in
set_option maxRecDepth 100000 in
theorem spec_l2total.calls (k : Nat) (A0_0 : Option Addr) (c0_0 : Nat) (l0_0 : List (S49)) (A0_1 : Option Addr) (c0_1 : Nat) (l0_1 : List (S56)) (a0_2 : Int) (a0_3 : Int) (a0_4 : Int) (r : Int) (w : World) (hr0_0 : Kd.C k49 w A0_0 l0_0.length l0_0) (hc0_0 : l0_0.length ≤ c0_0) (hr0_1 : Kd.C k56 w A0_1 l0_1.length l0_1) (hc0_1 : l0_1.length ≤ c0_1) (h : spec_l2total.f k l0_0 l0_1 a0_2 a0_3 a0_4 = some r) :
  Calls Tryd.prog 36 #[.agg #[.slice A0_0 l0_0.length c0_0,.slice A0_1 l0_1.length c0_1,.int .i64 a0_2,.int .i64 a0_3,.int .i64 a0_4]] w fun e w' => e = .returned (.int .i64 r)∧Below w.heap.size w w':=by
 have hu26:=Tryd.underlying26;have hu49:=Tryd.underlying49;have HR0_0:=Am hr0_0;have HC0_0:=Am hc0_0;clear hr0_0 hc0_0;have HR0_1:=Am hr0_1;have HC0_1:=Am hc0_1;clear hr0_1 hc0_1;have HB:=Am (Below.refl w.heap.size w);have H : (spec_l2total.l0 k 0 l0_0 (l0_0.length : Int) 0) = some r:=h;clear h;have H':=Am H;clear H
 go_enter Tryd.func36,Tryd.ntmps36
 go_wp2_with (first|((with_reducible refine gate_dst (N:=1) rfl ?_);refine box_event ?hg (N:=1) ?hd (cs:=#[.slice A0_0 l0_0.length c0_0,.slice A0_1 l0_1.length c0_1,.int .i64 a0_2,.int .i64 a0_3,.int .i64 a0_4]) (t:=26) ?hr ?_;(case hd => rfl);(case hg => rfl);(case hr => first|(go_simp;done)|(go_simp;rfl));intro gb253 hg w2 hbox hb;have n0_:=Am (below_step (bL HB) hb);have n1_:=Am (hbox);have n2_:=Am ((gS_ hg HB));have n3_:=Am ((gS_ hg HB));clear HB;have HB:=n0_;have BK253:=n1_;have GW253:=n2_;have GE253:=n3_;clear n0_ n1_ n2_ n3_;clear hb hbox hg;have hcz3_0:=cC_ BK253 0 rfl;have hcz3_1:=cC_ BK253 1 rfl;have hcz3_2:=cC_ BK253 2 rfl;have hcz3_3:=cC_ BK253 3 rfl;have hcz3_4:=cC_ BK253 4 rfl;have hfz3_0:=kF BK253.out 0;have hfz3_1:=kF BK253.out 1;have hfz3_2:=kF BK253.out 2;have hfz3_3:=kF BK253.out 3;have hfz3_4:=kF BK253.out 4))
 go_loopg [3,9] k (fun kq v3 v9 w' => ∃ (x3_1 : Int) (x9_1 : Int),v3 = .int .i64 x3_1∧v9 = .int .i64 x9_1∧As (spec_l2total.l0 kq x3_1 l0_0 (l0_0.length : Int) x9_1 = some r)∧As (kq ≤ k)∧As (w'.heap[gb253]? = some (.cells #[(.slice A0_0 l0_0.length c0_0),(.slice A0_1 l0_1.length c0_1),.int .i64 a0_2,.int .i64 a0_3,.int .i64 a0_4] 26 (0,0)))∧As (Below w.heap.size w w'))
 case atStart => exact ⟨(0),(0),vL_,vL_,H',⟨Nat.le_refl _⟩,⟨kL BK253⟩,⟨bL HB⟩⟩
 case round =>
  clear H';(try clear p2);(try clear c3);(try clear hcz3_0 hcz3_1 hcz3_2 hcz3_3 hcz3_4 hfz3_0 hfz3_1 hfz3_2 hfz3_3 hfz3_4);obtain ⟨x3_1,x9_1,rfl,rfl,HA,HK1,BK253,HB⟩:=hrel
  cases gk with
  | zero => exact absurd HA.out (by simp [spec_l2total.l0])
  | succ k1 =>
   have H:=HA.out;clear HA;simp only [spec_l2total.l0] at H
   by_cases c4 : x9_1 < (l0_0.length : Int)
   ·rw [if_pos c4] at H;have c4b0 : decide (x9_1 < (l0_0.length : Int)) = true:=decide_eq_true c4;clear c4
    by_cases c5 : 0 ≤ x9_1
    ·rw [if_pos c5] at H;have c5b0 : decide (0 ≤ x9_1) = true:=decide_eq_true c5;clear c5
     by_cases c6 : x9_1 < (l0_0.length : Int)
     ·rw [if_pos c6] at H;have c6b0 : decide (x9_1 < (l0_0.length : Int)) = true:=decide_eq_true c6;clear c6;have H':=Am H;clear H;have p254 : 0 ≤ (x9_1 : Int):=of_decide_eq_true (by first|(with_reducible assumption)|assumption);have q254 : x9_1 < (l0_0.length : Int):=of_decide_eq_true (by first|(with_reducible assumption)|assumption);obtain ⟨ad254,e254,hx254_0,hx254_1⟩:=at_T49 HR0_0.out x9_1 p254 q254;cases e254;replace hx254_0:=(HB.out.cell (World.block_lt_of_cell? w _ hx254_0)).trans hx254_0;replace hx254_1:=(HB.out.cell (World.block_lt_of_cell? w _ hx254_1)).trans hx254_1;replace p254:=eq_true p254;replace q254:=eq_true q254
      go_wp2_with (first|((with_reducible refine gate_dst (N:=5) rfl ?_);refine box_event ?hg (N:=5) ?hd (cs:=#[.int .i64 0,.int .i64 0]) (t:=49) ?hr ?_;(case hd => rfl);(case hg => rfl);(case hr => first|(go_simp;done)|(go_simp;rfl));intro gb255 hg w7 hbox hb;have n0_:=Am (kB_ BK253 hb);have n1_:=Am (below_step (bL HB) hb);have n2_:=Am (hbox);have n3_:=Am ((gS_ hg HB));have n4_:=Am ((gS_ hg HB));have n5_:=Am ((gM_ hg BK253));have n6_:=Am ((gN_ hg BK253));clear BK253;clear HB;have BK253:=n0_;have HB:=n1_;have BK255:=n2_;have GW255:=n3_;have GE255:=n4_;have NB253_255:=n5_;have NB255_253:=n6_;clear n0_ n1_ n2_ n3_ n4_ n5_ n6_;clear hb hbox hg;have hnb8:=NB255_253.out;have hnc8:=NB253_255.out;have hcz9_0:=cC_ BK255 0 rfl;have hcz9_1:=cC_ BK255 1 rfl;have hfz9_0:=kF BK255.out 0;have hfz9_1:=kF BK255.out 1))
      go_roundg k1
      case measure => have:=HK1.out;omega
      case rel => exact ⟨(wrap64 (x3_1 + ((rd_T49 l0_0 x9_1).f0))),(wrap64 (x9_1 + 1)),vL_,vL_,H',⟨by have:=HK1.out;omega⟩,⟨by (with_reducible repeat (first|refine kN ?_ _|refine kD ?_|refine kA ?_ _));refine blk_far ?_ NB253_255.out _;(with_reducible repeat (first|refine kN ?_ _|refine kD ?_|refine kA ?_ _));refine blk_far ?_ NB253_255.out _;(with_reducible repeat (first|refine kN ?_ _|refine kD ?_|refine kA ?_ _));exact BK253.out⟩,⟨bL HB⟩⟩
     ·rw [if_neg c6] at H;exact absurd H (by simp)
    ·rw [if_neg c5] at H;exact absurd H (by simp)
   ·rw [if_neg c4] at H;have c4b0 : decide (x9_1 < (l0_0.length : Int)) = false:=decide_eq_false c4;clear c4;obtain rfl:=Option.some.inj H;go_wp2;go_ret;exact ⟨eL_,bL HB⟩

end Go.Proofs.YtanjbdgmnecacaaDoor.PT
