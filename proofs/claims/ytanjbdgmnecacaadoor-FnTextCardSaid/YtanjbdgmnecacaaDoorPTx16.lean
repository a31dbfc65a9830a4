-- Written by a program of this session (wip/print/myprint.py) over the kit's print, with contracts of its own; not a text of print.sh's.
import Derived.Test.YtanjbdgmnecacaaDoorPTx0
import Derived.Test.YtanjbdgmnecacaaDoorPTx15
namespace Go.Proofs.YtanjbdgmnecacaaDoor.PT
open Go.RowKit Go.Proofs.YtanjbdgmnecacaaDoorW.PrintWords Go.Proofs.YtanjbdgmnecacaaDoorW.PrintLast Go.Proofs.YtanjbdgmnecacaaDoorW.PrintMore
attribute [local go_sem] max2_int min2_int max_two min_two   -- for this text's walks alone
set_option linter.unusedVariables false
set_option linter.unusedSimpArgs false

/-! ### spec_ProfileOk: function 20 -/
mutual
def spec_ProfileOk.j0 : Nat → Bool → List (S49) → List (S56) → Int → Int → Int → Option (Int)
 | 0,_,_,_,_,_,_ => none
 | k + 1,x22,x257000,x257001,x257002,x257003,x257004 => if x22 = true then (some 1) else (spec_ProfileOk.l0 k x257000 (x257000.length : Int) 0 x257000 x257001 x257002 x257003 x257004)
def spec_ProfileOk.l0 : Nat → List (S49) → Int → Int → List (S49) → List (S56) → Int → Int → Int → Option (Int)
 | 0,_,_,_,_,_,_,_,_ => none
 | k + 1,x24,x25,x26,x257000,x257001,x257002,x257003,x257004 => if x26 < x25 then (if 0 ≤ x26 then (if x26 < (x24.length : Int) then ((spec_l1in.f ((rd_T49 x24 x26).f0) 1 1666666).bind fun t259 => (if t259 = true then ((spec_l1brakes.f ((rd_T49 x24 x26).f1)).bind fun t260 => (if t260 = true then (spec_ProfileOk.l0 k x24 x25 (wrap64 (x26 + 1)) x257000 x257001 x257002 x257003 x257004) else (some 2))) else (some 2))) else (none)) else (none)) else (spec_ProfileOk.l1 k x257001 (x257001.length : Int) 0 x257000 x257001 x257002 x257003 x257004)
def spec_ProfileOk.l1 : Nat → List (S56) → Int → Int → List (S49) → List (S56) → Int → Int → Int → Option (Int)
 | 0,_,_,_,_,_,_,_,_ => none
 | k + 1,x42,x43,x44,x257000,x257001,x257002,x257003,x257004 => if x44 < x43 then (if 0 ≤ x44 then (if x44 < (x42.length : Int) then ((spec_l2total.f k x257000 x257001 x257002 x257003 x257004).bind fun t263 => ((spec_l1in.f ((rd_T56 x42 x44).f0) 0 t263).bind fun t264 => (if t264 = true then ((spec_l2total.f k x257000 x257001 x257002 x257003 x257004).bind fun t265 => ((spec_l1in.f ((rd_T56 x42 x44).f1) ((rd_T56 x42 x44).f0) t265).bind fun t266 => (if t266 = true then ((spec_l1in.f ((rd_T56 x42 x44).f2) 1 10000).bind fun t267 => (if t267 = true then (spec_ProfileOk.l1 k x42 x43 (wrap64 (x44 + 1)) x257000 x257001 x257002 x257003 x257004) else (some 3))) else (some 3)))) else (some 3)))) else (none)) else (none)) else ((spec_l1in.f x257002 0 100000000).bind fun t268 => (if t268 = true then ((spec_l2total.f k x257000 x257001 x257002 x257003 x257004).bind fun t269 => ((spec_l1in.f x257003 0 t269).bind fun t270 => (if t270 = true then ((spec_l1in.f x257004 0 20).bind fun t271 => (if t271 = true then (some 0) else (some 6))) else (some 5)))) else (some 4)))
end
def spec_ProfileOk.f (k : Nat) (l0_0 : List (S49)) (l0_1 : List (S56)) (a0_2 : Int) (a0_3 : Int) (a0_4 : Int) : Option (Int):=if (l0_0.length : Int) = 0 then (spec_ProfileOk.j0 k true l0_0 l0_1 a0_2 a0_3 a0_4) else (if (l0_0.length : Int) > 60 then (spec_ProfileOk.j0 k true l0_0 l0_1 a0_2 a0_3 a0_4) else (spec_ProfileOk.j0 k (decide ((l0_1.length : Int) > 60)) l0_0 l0_1 a0_2 a0_3 a0_4))
theorem spec_ProfileOk.mono_l : ∀ k,(∀ y0 y1 y2 y3 y4 y5,LeO (spec_ProfileOk.j0 k y0 y1 y2 y3 y4 y5) (spec_ProfileOk.j0 (k + 1) y0 y1 y2 y3 y4 y5))∧(∀ y0 y1 y2 y3 y4 y5 y6 y7,LeO (spec_ProfileOk.l0 k y0 y1 y2 y3 y4 y5 y6 y7) (spec_ProfileOk.l0 (k + 1) y0 y1 y2 y3 y4 y5 y6 y7))∧(∀ y0 y1 y2 y3 y4 y5 y6 y7,LeO (spec_ProfileOk.l1 k y0 y1 y2 y3 y4 y5 y6 y7) (spec_ProfileOk.l1 (k + 1) y0 y1 y2 y3 y4 y5 y6 y7))
 | 0 => ⟨fun _ _ _ _ _ _ r h => by simp [spec_ProfileOk.j0] at h,fun _ _ _ _ _ _ _ _ r h => by simp [spec_ProfileOk.l0] at h,fun _ _ _ _ _ _ _ _ r h => by simp [spec_ProfileOk.l1] at h⟩
 | k + 1 => by
  obtain ⟨ih0,ih1,ih2⟩:=spec_ProfileOk.mono_l k;refine ⟨?_,?_,?_⟩
  ·intro y0 y1 y2 y3 y4 y5;unfold spec_ProfileOk.j0
   repeat' first
   | (with_reducible exact ih0 _ _ _ _ _ _)
   | (with_reducible exact ih1 _ _ _ _ _ _ _ _)
   | (with_reducible exact ih2 _ _ _ _ _ _ _ _)
   | (with_reducible exact spec_l2total.mono _ _ _ _ _ _)
   | (with_reducible exact LeO.refl _)
   | (with_reducible exact LeO.none _)
   | (with_reducible refine LeO.ite ?_ ?_)
   | (with_reducible refine LeO.bind ?_ (fun _ => ?_))
   | exact ih0 _ _ _ _ _ _
   | exact ih1 _ _ _ _ _ _ _ _
   | exact ih2 _ _ _ _ _ _ _ _
   | exact spec_l2total.mono _ _ _ _ _ _
   | exact LeO.none _
   | refine LeO.ite ?_ ?_
   | refine LeO.bind ?_ (fun _ => ?_)
  ·intro y0 y1 y2 y3 y4 y5 y6 y7;unfold spec_ProfileOk.l0
   repeat' first
   | (with_reducible exact ih0 _ _ _ _ _ _)
   | (with_reducible exact ih1 _ _ _ _ _ _ _ _)
   | (with_reducible exact ih2 _ _ _ _ _ _ _ _)
   | (with_reducible exact spec_l2total.mono _ _ _ _ _ _)
   | (with_reducible exact LeO.refl _)
   | (with_reducible exact LeO.none _)
   | (with_reducible refine LeO.ite ?_ ?_)
   | (with_reducible refine LeO.bind ?_ (fun _ => ?_))
   | exact ih0 _ _ _ _ _ _
   | exact ih1 _ _ _ _ _ _ _ _
   | exact ih2 _ _ _ _ _ _ _ _
   | exact spec_l2total.mono _ _ _ _ _ _
   | exact LeO.none _
   | refine LeO.ite ?_ ?_
   | refine LeO.bind ?_ (fun _ => ?_)
  ·intro y0 y1 y2 y3 y4 y5 y6 y7;unfold spec_ProfileOk.l1
   repeat' first
   | (with_reducible exact ih0 _ _ _ _ _ _)
   | (with_reducible exact ih1 _ _ _ _ _ _ _ _)
   | (with_reducible exact ih2 _ _ _ _ _ _ _ _)
   | (with_reducible exact spec_l2total.mono _ _ _ _ _ _)
   | (with_reducible exact LeO.refl _)
   | (with_reducible exact LeO.none _)
   | (with_reducible refine LeO.ite ?_ ?_)
   | (with_reducible refine LeO.bind ?_ (fun _ => ?_))
   | exact ih0 _ _ _ _ _ _
   | exact ih1 _ _ _ _ _ _ _ _
   | exact ih2 _ _ _ _ _ _ _ _
   | exact spec_l2total.mono _ _ _ _ _ _
   | exact LeO.none _
   | refine LeO.ite ?_ ?_
   | refine LeO.bind ?_ (fun _ => ?_)
theorem spec_ProfileOk.mono : ∀ a0 a1 a2 a3 a4 k,LeO (spec_ProfileOk.f k a0 a1 a2 a3 a4) (spec_ProfileOk.f (k + 1) a0 a1 a2 a3 a4):=by
 intro a0 a1 a2 a3 a4 k;obtain ⟨ih0,ih1,ih2⟩:=spec_ProfileOk.mono_l k;unfold spec_ProfileOk.f
 repeat' first
   | (with_reducible exact ih0 _ _ _ _ _ _)
   | (with_reducible exact ih1 _ _ _ _ _ _ _ _)
   | (with_reducible exact ih2 _ _ _ _ _ _ _ _)
   | (with_reducible exact spec_l2total.mono _ _ _ _ _ _)
   | (with_reducible exact LeO.refl _)
   | (with_reducible exact LeO.none _)
   | (with_reducible refine LeO.ite ?_ ?_)
   | (with_reducible refine LeO.bind ?_ (fun _ => ?_))
   | exact ih0 _ _ _ _ _ _
   | exact ih1 _ _ _ _ _ _ _ _
   | exact ih2 _ _ _ _ _ _ _ _
   | exact spec_l2total.mono _ _ _ _ _ _
   | exact LeO.none _
   | refine LeO.ite ?_ ?_
   | refine LeO.bind ?_ (fun _ => ?_)
def spec_ProfileOk.T12 : Bool × List (List Nat × List Nat):=(true,[([],[]),([0],[0]),([],[]),([2],[2]),([1,3,3],[1,3]),([4],[4]),([5,4],[5]),([6],[6]),([7,6],[6,7]),([6],[6]),([9,6],[6,9]),([6],[6]),([11,6,6],[6,11]),([8,10,12,12,6],[6,8,10,12]),([13,6],[6,13]),([6,14],[6,14]),([15,13],[15]),([16],[16]),([17,16],[16,17]),([18,16,16],[16,18]),([19,16],[16,19]),([16,20],[16,20])])
def spec_ProfileOk.B12 : List Nat:=[0,1,0,4,15,31,63,127,255,127,639,127,2175,8191,16383,32767,65535,131071,262143,524287,1048575,2097151]
theorem spec_ProfileOk.tab12 : rtab .any (opsOf Tryd.f20 12) = spec_ProfileOk.T12:=by kernel_rfl
theorem spec_ProfileOk.bits12 : waitsOk spec_ProfileOk.T12.2 spec_ProfileOk.B12 = true:=by kernel_rfl
set_option maxHeartbeats 8000000 in
set_option maxRecDepth 100000 in
theorem spec_ProfileOk.calls (k : Nat) (A0_0 : Option Addr) (c0_0 : Nat) (l0_0 : List (S49)) (A0_1 : Option Addr) (c0_1 : Nat) (l0_1 : List (S56)) (a0_2 : Int) (a0_3 : Int) (a0_4 : Int) (r : Int) (w : World) (hr0_0 : Kd.C k49 w A0_0 l0_0.length l0_0) (hc0_0 : l0_0.length ≤ c0_0) (hr0_1 : Kd.C k56 w A0_1 l0_1.length l0_1) (hc0_1 : l0_1.length ≤ c0_1) (h : spec_ProfileOk.f k l0_0 l0_1 a0_2 a0_3 a0_4 = some r) :
  Calls Tryd.prog 20 #[.agg #[.slice A0_0 l0_0.length c0_0,.slice A0_1 l0_1.length c0_1,.int .i64 a0_2,.int .i64 a0_3,.int .i64 a0_4]] w fun e w' => e = .returned (.int .i64 r)∧Below w.heap.size w w':=by
 have hu26:=Tryd.underlying26;have hu49:=Tryd.underlying49;have hu56:=Tryd.underlying56;have HR0_0:=Am hr0_0;have HC0_0:=Am hc0_0;clear hr0_0 hc0_0;have HR0_1:=Am hr0_1;have HC0_1:=Am hc0_1;clear hr0_1 hc0_1;have HB:=Am (Below.refl w.heap.size w);have H : (if (l0_0.length : Int) = 0 then (spec_ProfileOk.j0 k true l0_0 l0_1 a0_2 a0_3 a0_4) else (if (l0_0.length : Int) > 60 then (spec_ProfileOk.j0 k true l0_0 l0_1 a0_2 a0_3 a0_4) else (spec_ProfileOk.j0 k (decide ((l0_1.length : Int) > 60)) l0_0 l0_1 a0_2 a0_3 a0_4))) = some r:=h;clear h;have HC2:=Am H;clear H
 go_enter Tryd.func20,Tryd.ntmps20
 go_upto_region 1 with (first|((with_reducible refine gate_dst (N:=1) rfl ?_);(try (refine gate_guard (by rfl) ?_;dsimp only));refine box_event ?hg (N:=1) ?hd (cs:=#[.slice A0_0 l0_0.length c0_0,.slice A0_1 l0_1.length c0_1,.int .i64 a0_2,.int .i64 a0_3,.int .i64 a0_4]) (t:=26) ?hr ?_;(case hd => rfl);(case hg => rfl);(case hr => first|(go_simp;done)|(go_simp;rfl));intro gb256 hg w3 hbox hb;have n0_:=Am (below_step (bL HB) hb);have n1_:=Am (hbox);have n2_:=Am ((gS_ hg HB));have n3_:=Am ((gS_ hg HB));clear HB;have HB:=n0_;have BK256:=n1_;have GW256:=n2_;have GE256:=n3_;clear n0_ n1_ n2_ n3_;clear hb hbox hg))
 (try simp only [Act.put,List.setIfInBounds_toArray,List.set_cons_zero,List.set_cons_succ])
 go_cut [22] (fun v22 wc => ∃ (kq : Nat) (x22_1 : Bool),v22 = .bool x22_1∧As (spec_ProfileOk.j0 kq x22_1 l0_0 l0_1 a0_2 a0_3 a0_4 = some r)∧As (kq ≤ k)∧As (wc.heap[gb256]? = some (.cells #[(.slice A0_0 l0_0.length c0_0),(.slice A0_1 l0_1.length c0_1),.int .i64 a0_2,.int .i64 a0_3,.int .i64 a0_4] 26 (0,0)))∧As (Below w.heap.size w wc))
 case first =>
  have H:=HC2.out;clear HC2
  by_cases c4 : (l0_0.length : Int) = 0
  ·rw [if_pos c4] at H;have c4b0 : ((l0_0.length : Int) == 0) = true:=beq_iff_eq.mpr c4;have c4b1 : ((l0_0.length : Int) != 0) = false:=bne_eq_false_iff_eq.mpr c4;clear c4
   (first|rw [c4b0]|(simp only [i64_w,i32_w];rw [c4b0])|skip)
   have H':=Am H;clear H;have hcz5_0:=cC_ BK256 0 rfl;have hcz5_1:=cC_ BK256 1 rfl;have hcz5_2:=cC_ BK256 2 rfl;have hcz5_3:=cC_ BK256 3 rfl;have hcz5_4:=cC_ BK256 4 rfl;have hfz5_0:=kF BK256.out 0;have hfz5_1:=kF BK256.out 1;have hfz5_2:=kF BK256.out 2;have hfz5_3:=kF BK256.out 3;have hfz5_4:=kF BK256.out 4;go_wp2
   go_meet
   case rel => exact ⟨_,(true),vL_,H',⟨by first|omega|exact Nat.le_refl _⟩,⟨kL BK256⟩,⟨bL HB⟩⟩
  ·rw [if_neg c4] at H;have c4b0 : ((l0_0.length : Int) == 0) = false:=beq_eq_false_iff_ne.mpr c4;have c4b1 : ((l0_0.length : Int) != 0) = true:=bne_iff_ne.mpr c4
   have c4b2 : ¬ (l0_0 = []):=fun h_ => c4 (by rw [h_];rfl)
   (first|rw [c4b0]|(simp only [i64_w,i32_w];rw [c4b0])|skip)
   by_cases c6 : (l0_0.length : Int) > 60
   ·rw [if_pos c6] at H;have c6b0 : decide (60 < (l0_0.length : Int)) = true:=decide_eq_true c6;have c6b1 : decide (60 < l0_0.length) = true:=decide_eq_true (by omega);clear c6;have H':=Am H;clear H;have hcz7_0:=cC_ BK256 0 rfl;have hcz7_1:=cC_ BK256 1 rfl;have hcz7_2:=cC_ BK256 2 rfl;have hcz7_3:=cC_ BK256 3 rfl;have hcz7_4:=cC_ BK256 4 rfl;have hfz7_0:=kF BK256.out 0;have hfz7_1:=kF BK256.out 1;have hfz7_2:=kF BK256.out 2;have hfz7_3:=kF BK256.out 3;have hfz7_4:=kF BK256.out 4;go_wp2
    go_meet
    case rel => exact ⟨_,(true),vL_,H',⟨by first|omega|exact Nat.le_refl _⟩,⟨kL BK256⟩,⟨bL HB⟩⟩
   ·rw [if_neg c6] at H;have c6b0 : decide (60 < (l0_0.length : Int)) = false:=decide_eq_false c6;have c6b1 : decide (60 < l0_0.length) = false:=decide_eq_false (by omega);clear c6;have H':=Am H;clear H;have hcz8_0:=cC_ BK256 0 rfl;have hcz8_1:=cC_ BK256 1 rfl;have hcz8_2:=cC_ BK256 2 rfl;have hcz8_3:=cC_ BK256 3 rfl;have hcz8_4:=cC_ BK256 4 rfl;have hfz8_0:=kF BK256.out 0;have hfz8_1:=kF BK256.out 1;have hfz8_2:=kF BK256.out 2;have hfz8_3:=kF BK256.out 3;have hfz8_4:=kF BK256.out 4;go_wp2
    go_meet
    case rel => exact ⟨_,(decide ((l0_1.length : Int) > 60)),vL_,H',⟨by first|omega|exact Nat.le_refl _⟩,⟨kL BK256⟩,⟨bL HB⟩⟩
 case rest =>
  clear HC2;(try clear c2);(try clear p2);(try clear c4);(try clear c4b0);(try clear c4b1);(try clear c4b2);(try clear c6);(try clear c6b0);(try clear c6b1);(try clear hcz5_0 hcz5_1 hcz5_2 hcz5_3 hcz5_4 hcz7_0 hcz7_1 hcz7_2 hcz7_3 hcz7_4 hcz8_0 hcz8_1 hcz8_2 hcz8_3 hcz8_4 hfz5_0 hfz5_1 hfz5_2 hfz5_3 hfz5_4 hfz7_0 hfz7_1 hfz7_2 hfz7_3 hfz7_4 hfz8_0 hfz8_1 hfz8_2 hfz8_3 hfz8_4);obtain ⟨kq,x22_1,rfl,HA,HJ1,BK256,HB⟩:=hcut
  cases kq with
  | zero => exact absurd HA.out (by simp [spec_ProfileOk.j0])
  | succ kj1 =>
   have H:=HA.out;clear HA;simp only [spec_ProfileOk.j0] at H
   by_cases c9 : x22_1 = true
   ·subst c9
    rw [if_pos rfl] at H;obtain rfl:=Option.some.inj H;go_wp2;go_ret;exact ⟨eL_,bL HB⟩
   ·replace c9:=Bool.eq_false_iff.mpr c9;subst c9
    rw [if_neg (show ¬ (false = true) by decide)] at H;have H':=Am H;clear H;have hcz10_0:=cC_ BK256 0 rfl;have hcz10_1:=cC_ BK256 1 rfl;have hcz10_2:=cC_ BK256 2 rfl;have hcz10_3:=cC_ BK256 3 rfl;have hcz10_4:=cC_ BK256 4 rfl;have hfz10_0:=kF BK256.out 0;have hfz10_1:=kF BK256.out 1;have hfz10_2:=kF BK256.out 2;have hfz10_3:=kF BK256.out 3;have hfz10_4:=kF BK256.out 4;go_wp2
    go_loopg [26] kj1 (fun kq v26 w' => ∃ (x26_2 : Int),v26 = .int .i64 x26_2∧As (spec_ProfileOk.l0 kq l0_0 (l0_0.length : Int) x26_2 l0_0 l0_1 a0_2 a0_3 a0_4 = some r)∧As (kq ≤ kj1)∧As (w'.heap[gb256]? = some (.cells #[(.slice A0_0 l0_0.length c0_0),(.slice A0_1 l0_1.length c0_1),.int .i64 a0_2,.int .i64 a0_3,.int .i64 a0_4] 26 (0,0)))∧As (Below w.heap.size w w'))
    case atStart => exact ⟨(0),vL_,H',⟨Nat.le_refl _⟩,⟨kL BK256⟩,⟨bL HB⟩⟩
    case round =>
     clear H';(try clear c2);(try clear p2);(try clear c4);(try clear c4b0);(try clear c4b1);(try clear c4b2);(try clear c6);(try clear c6b0);(try clear c6b1);(try clear c9);(try clear hcz10_0 hcz10_1 hcz10_2 hcz10_3 hcz10_4 hcz5_0 hcz5_1 hcz5_2 hcz5_3 hcz5_4 hcz7_0 hcz7_1 hcz7_2 hcz7_3 hcz7_4 hcz8_0 hcz8_1 hcz8_2 hcz8_3 hcz8_4 hfz10_0 hfz10_1 hfz10_2 hfz10_3 hfz10_4 hfz5_0 hfz5_1 hfz5_2 hfz5_3 hfz5_4 hfz7_0 hfz7_1 hfz7_2 hfz7_3 hfz7_4 hfz8_0 hfz8_1 hfz8_2 hfz8_3 hfz8_4);(try clear p2);obtain ⟨x26_2,rfl,HA,HK2,BK256,HB⟩:=hrel
     cases gk with
     | zero => exact absurd HA.out (by simp [spec_ProfileOk.l0])
     | succ k2 =>
      have H:=HA.out;clear HA;simp only [spec_ProfileOk.l0] at H
      by_cases c11 : x26_2 < (l0_0.length : Int)
      ·rw [if_pos c11] at H;have c11b0 : decide (x26_2 < (l0_0.length : Int)) = true:=decide_eq_true c11;clear c11
       by_cases c12 : 0 ≤ x26_2
       ·rw [if_pos c12] at H;have c12b0 : decide (0 ≤ x26_2) = true:=decide_eq_true c12;clear c12
        by_cases c13 : x26_2 < (l0_0.length : Int)
        ·rw [if_pos c13] at H;have c13b0 : decide (x26_2 < (l0_0.length : Int)) = true:=decide_eq_true c13;clear c13;replace H:=Option.bind_eq_some_iff.mp H;obtain ⟨t259,A140,H⟩:=H;have A14:=Am A140;clear A140
         by_cases c15 : t259 = true
         ·subst c15
          rw [if_pos rfl] at H;replace H:=Option.bind_eq_some_iff.mp H;obtain ⟨t260,A160,H⟩:=H;have A16:=Am A160;clear A160
          by_cases c17 : t260 = true
          ·subst c17
           rw [if_pos rfl] at H;have H':=Am H;clear H;have p257 : 0 ≤ (x26_2 : Int):=of_decide_eq_true (by first|(with_reducible assumption)|assumption);have q257 : x26_2 < (l0_0.length : Int):=of_decide_eq_true (by first|(with_reducible assumption)|assumption);obtain ⟨ad257,e257,hx257_0,hx257_1⟩:=at_T49 HR0_0.out x26_2 p257 q257;cases e257;replace hx257_0:=(HB.out.cell (World.block_lt_of_cell? w _ hx257_0)).trans hx257_0;replace hx257_1:=(HB.out.cell (World.block_lt_of_cell? w _ hx257_1)).trans hx257_1;replace p257:=eq_true p257;replace q257:=eq_true q257
           go_wp2_with (first|((with_reducible refine gate_dst (N:=4) rfl ?_);(try (refine gate_guard (by rfl) ?_;dsimp only));refine box_event ?hg (N:=4) ?hd (cs:=#[.int .i64 0,.int .i64 0]) (t:=49) ?hr ?_;(case hd => rfl);(case hg => rfl);(case hr => first|(go_simp;done)|(go_simp;rfl));intro gb258 hg w18 hbox hb;have n0_:=Am (kB_ BK256 hb);have n1_:=Am (below_step (bL HB) hb);have n2_:=Am (hbox);have n3_:=Am ((gS_ hg HB));have n4_:=Am ((gS_ hg HB));have n5_:=Am ((gM_ hg BK256));have n6_:=Am ((gN_ hg BK256));clear BK256;clear HB;have BK256:=n0_;have HB:=n1_;have BK258:=n2_;have GW258:=n3_;have GE258:=n4_;have NB256_258:=n5_;have NB258_256:=n6_;clear n0_ n1_ n2_ n3_ n4_ n5_ n6_;clear hb hbox hg;have hnb19:=NB258_256.out;have hnc19:=NB256_258.out;have hcz20_0:=cC_ BK258 0 rfl;have hcz20_1:=cC_ BK258 1 rfl;have hfz20_0:=kF BK258.out 0;have hfz20_1:=kF BK258.out 1)|((with_reducible refine gate_callee (f:=34) rfl ?_);refine goesL_ (some 32) rfl rfl Tryd.func34 (by kernel_rfl) rfl #[.int .i64 ((rd_T49 l0_0 x26_2).f0),.int .i64 1,.int .i64 1666666] rfl lA ?_;(with_reducible refine (spec_l1in.calls ((rd_T49 l0_0 x26_2).f0) 1 1666666 true _ A14.out).mono ?_);rintro e w' ⟨rfl,⟨nd,rfl⟩⟩;refine ⟨_,rfl,?_⟩)|(go_at_call 35;(with_reducible refine (spec_l1brakes.calls ((rd_T49 l0_0 x26_2).f1) true _ A16.out).mono ?_);rintro e w' ⟨rfl,⟨nd,rfl⟩⟩))
           go_roundg k2
           case measure => have:=HJ1.out;have:=HK2.out;omega
           case rel => exact ⟨(wrap64 (x26_2 + 1)),vL_,H',⟨by have:=HJ1.out;have:=HK2.out;omega⟩,⟨by (with_reducible repeat (first|refine kN ?_ _|refine kD ?_|refine kA ?_ _));refine blk_far ?_ NB256_258.out _;(with_reducible repeat (first|refine kN ?_ _|refine kD ?_|refine kA ?_ _));refine blk_far ?_ NB256_258.out _;(with_reducible repeat (first|refine kN ?_ _|refine kD ?_|refine kA ?_ _));exact BK256.out⟩,⟨bL HB⟩⟩
          ·replace c17:=Bool.eq_false_iff.mpr c17;subst c17
           rw [if_neg (show ¬ (false = true) by decide)] at H;obtain rfl:=Option.some.inj H;have p257 : 0 ≤ (x26_2 : Int):=of_decide_eq_true (by first|(with_reducible assumption)|assumption);have q257 : x26_2 < (l0_0.length : Int):=of_decide_eq_true (by first|(with_reducible assumption)|assumption);obtain ⟨ad257,e257,hx257_0,hx257_1⟩:=at_T49 HR0_0.out x26_2 p257 q257;cases e257;replace hx257_0:=(HB.out.cell (World.block_lt_of_cell? w _ hx257_0)).trans hx257_0;replace hx257_1:=(HB.out.cell (World.block_lt_of_cell? w _ hx257_1)).trans hx257_1;replace p257:=eq_true p257;replace q257:=eq_true q257
           go_wp2_with (first|((with_reducible refine gate_dst (N:=4) rfl ?_);(try (refine gate_guard (by rfl) ?_;dsimp only));refine box_event ?hg (N:=4) ?hd (cs:=#[.int .i64 0,.int .i64 0]) (t:=49) ?hr ?_;(case hd => rfl);(case hg => rfl);(case hr => first|(go_simp;done)|(go_simp;rfl));intro gb258 hg w21 hbox hb;have n0_:=Am (kB_ BK256 hb);have n1_:=Am (below_step (bL HB) hb);have n2_:=Am (hbox);have n3_:=Am ((gS_ hg HB));have n4_:=Am ((gS_ hg HB));have n5_:=Am ((gM_ hg BK256));have n6_:=Am ((gN_ hg BK256));clear BK256;clear HB;have BK256:=n0_;have HB:=n1_;have BK258:=n2_;have GW258:=n3_;have GE258:=n4_;have NB256_258:=n5_;have NB258_256:=n6_;clear n0_ n1_ n2_ n3_ n4_ n5_ n6_;clear hb hbox hg;have hnb22:=NB258_256.out;have hnc22:=NB256_258.out;have hcz23_0:=cC_ BK258 0 rfl;have hcz23_1:=cC_ BK258 1 rfl;have hfz23_0:=kF BK258.out 0;have hfz23_1:=kF BK258.out 1)|((with_reducible refine gate_callee (f:=34) rfl ?_);refine goesL_ (some 32) rfl rfl Tryd.func34 (by kernel_rfl) rfl #[.int .i64 ((rd_T49 l0_0 x26_2).f0),.int .i64 1,.int .i64 1666666] rfl lA ?_;(with_reducible refine (spec_l1in.calls ((rd_T49 l0_0 x26_2).f0) 1 1666666 true _ A14.out).mono ?_);rintro e w' ⟨rfl,⟨nd,rfl⟩⟩;refine ⟨_,rfl,?_⟩)|(go_at_call 35;(with_reducible refine (spec_l1brakes.calls ((rd_T49 l0_0 x26_2).f1) false _ A16.out).mono ?_);rintro e w' ⟨rfl,⟨nd,rfl⟩⟩))
           go_ret;exact ⟨eL_,bL HB⟩
         ·replace c15:=Bool.eq_false_iff.mpr c15;subst c15
          rw [if_neg (show ¬ (false = true) by decide)] at H;obtain rfl:=Option.some.inj H;have p257 : 0 ≤ (x26_2 : Int):=of_decide_eq_true (by first|(with_reducible assumption)|assumption);have q257 : x26_2 < (l0_0.length : Int):=of_decide_eq_true (by first|(with_reducible assumption)|assumption);obtain ⟨ad257,e257,hx257_0,hx257_1⟩:=at_T49 HR0_0.out x26_2 p257 q257;cases e257;replace hx257_0:=(HB.out.cell (World.block_lt_of_cell? w _ hx257_0)).trans hx257_0;replace hx257_1:=(HB.out.cell (World.block_lt_of_cell? w _ hx257_1)).trans hx257_1;replace p257:=eq_true p257;replace q257:=eq_true q257
          go_wp2_with (first|((with_reducible refine gate_dst (N:=4) rfl ?_);(try (refine gate_guard (by rfl) ?_;dsimp only));refine box_event ?hg (N:=4) ?hd (cs:=#[.int .i64 0,.int .i64 0]) (t:=49) ?hr ?_;(case hd => rfl);(case hg => rfl);(case hr => first|(go_simp;done)|(go_simp;rfl));intro gb258 hg w24 hbox hb;have n0_:=Am (kB_ BK256 hb);have n1_:=Am (below_step (bL HB) hb);have n2_:=Am (hbox);have n3_:=Am ((gS_ hg HB));have n4_:=Am ((gS_ hg HB));have n5_:=Am ((gM_ hg BK256));have n6_:=Am ((gN_ hg BK256));clear BK256;clear HB;have BK256:=n0_;have HB:=n1_;have BK258:=n2_;have GW258:=n3_;have GE258:=n4_;have NB256_258:=n5_;have NB258_256:=n6_;clear n0_ n1_ n2_ n3_ n4_ n5_ n6_;clear hb hbox hg;have hnb25:=NB258_256.out;have hnc25:=NB256_258.out;have hcz26_0:=cC_ BK258 0 rfl;have hcz26_1:=cC_ BK258 1 rfl;have hfz26_0:=kF BK258.out 0;have hfz26_1:=kF BK258.out 1)|((with_reducible refine gate_callee (f:=34) rfl ?_);refine goesL_ (some 32) rfl rfl Tryd.func34 (by kernel_rfl) rfl #[.int .i64 ((rd_T49 l0_0 x26_2).f0),.int .i64 1,.int .i64 1666666] rfl lA ?_;(with_reducible refine (spec_l1in.calls ((rd_T49 l0_0 x26_2).f0) 1 1666666 false _ A14.out).mono ?_);rintro e w' ⟨rfl,⟨nd,rfl⟩⟩;refine ⟨_,rfl,?_⟩))
          go_ret;exact ⟨eL_,bL HB⟩
        ·rw [if_neg c13] at H;exact absurd H (by simp)
       ·rw [if_neg c12] at H;exact absurd H (by simp)
      ·rw [if_neg c11] at H;have c11b0 : decide (x26_2 < (l0_0.length : Int)) = false:=decide_eq_false c11;clear c11;have H':=Am H;clear H;have hcz27_0:=cC_ BK256 0 rfl;have hcz27_1:=cC_ BK256 1 rfl;have hcz27_2:=cC_ BK256 2 rfl;have hcz27_3:=cC_ BK256 3 rfl;have hcz27_4:=cC_ BK256 4 rfl;have hfz27_0:=kF BK256.out 0;have hfz27_1:=kF BK256.out 1;have hfz27_2:=kF BK256.out 2;have hfz27_3:=kF BK256.out 3;have hfz27_4:=kF BK256.out 4;go_wp2
       go_loopg [44] k2 (fun kq v44 w' => ∃ (x44_3 : Int),v44 = .int .i64 x44_3∧As (spec_ProfileOk.l1 kq l0_1 (l0_1.length : Int) x44_3 l0_0 l0_1 a0_2 a0_3 a0_4 = some r)∧As (kq ≤ k2)∧As (w'.heap[gb256]? = some (.cells #[(.slice A0_0 l0_0.length c0_0),(.slice A0_1 l0_1.length c0_1),.int .i64 a0_2,.int .i64 a0_3,.int .i64 a0_4] 26 (0,0)))∧As (Below w.heap.size w w'))
       case atStart => exact ⟨(0),vL_,H',⟨Nat.le_refl _⟩,⟨kL BK256⟩,⟨bL HB⟩⟩
       case round =>
        clear H';(try clear c1);(try clear c2);(try clear p2);(try clear q2);(try clear hx2);(try clear c3);(try clear c4);(try clear c4b0);(try clear c4b1);(try clear c4b2);(try clear c6);(try clear c6b0);(try clear c6b1);(try clear p6);(try clear c9);(try clear c11);(try clear c11b0);(try clear c12);(try clear c12b0);(try clear c13);(try clear c13b0);(try clear c15);(try clear c17);(try clear c19);(try clear c20);(try clear c22);(try clear c25);(try clear p25);(try clear q25);(try clear hx25);(try clear hcz10_0 hcz10_1 hcz10_2 hcz10_3 hcz10_4 hcz20_0 hcz20_1 hcz23_0 hcz23_1 hcz26_0 hcz26_1 hcz27_0 hcz27_1 hcz27_2 hcz27_3 hcz27_4 hcz5_0 hcz5_1 hcz5_2 hcz5_3 hcz5_4 hcz7_0 hcz7_1 hcz7_2 hcz7_3 hcz7_4 hcz8_0 hcz8_1 hcz8_2 hcz8_3 hcz8_4 hfz10_0 hfz10_1 hfz10_2 hfz10_3 hfz10_4 hfz20_0 hfz20_1 hfz23_0 hfz23_1 hfz26_0 hfz26_1 hfz27_0 hfz27_1 hfz27_2 hfz27_3 hfz27_4 hfz5_0 hfz5_1 hfz5_2 hfz5_3 hfz5_4 hfz7_0 hfz7_1 hfz7_2 hfz7_3 hfz7_4 hfz8_0 hfz8_1 hfz8_2 hfz8_3 hfz8_4);(try clear hx257_0);(try clear hx257_1);(try clear p2);(try clear p257);(try clear q257);obtain ⟨x44_3,rfl,HA,HK3,BK256,HB⟩:=hrel
        cases gk with
        | zero => exact absurd HA.out (by simp [spec_ProfileOk.l1])
        | succ k3 =>
         have H:=HA.out;clear HA;simp only [spec_ProfileOk.l1] at H
         by_cases c28 : x44_3 < (l0_1.length : Int)
         ·rw [if_pos c28] at H;have c28b0 : decide (x44_3 < (l0_1.length : Int)) = true:=decide_eq_true c28;clear c28
          by_cases c29 : 0 ≤ x44_3
          ·rw [if_pos c29] at H;have c29b0 : decide (0 ≤ x44_3) = true:=decide_eq_true c29;clear c29
           by_cases c30 : x44_3 < (l0_1.length : Int)
           ·rw [if_pos c30] at H;have c30b0 : decide (x44_3 < (l0_1.length : Int)) = true:=decide_eq_true c30;clear c30;replace H:=Option.bind_eq_some_iff.mp H;obtain ⟨t263,A310,H⟩:=H;have A31:=Am A310;clear A310;replace H:=Option.bind_eq_some_iff.mp H;obtain ⟨t264,A320,H⟩:=H;have A32:=Am A320;clear A320
            by_cases c33 : t264 = true
            ·subst c33
             rw [if_pos rfl] at H;replace H:=Option.bind_eq_some_iff.mp H;obtain ⟨t265,A340,H⟩:=H;have A34:=Am A340;clear A340;replace H:=Option.bind_eq_some_iff.mp H;obtain ⟨t266,A350,H⟩:=H;have A35:=Am A350;clear A350
             by_cases c36 : t266 = true
             ·subst c36
              rw [if_pos rfl] at H;replace H:=Option.bind_eq_some_iff.mp H;obtain ⟨t267,A370,H⟩:=H;have A37:=Am A370;clear A370
              by_cases c38 : t267 = true
              ·subst c38
               rw [if_pos rfl] at H;have H':=Am H;clear H;have p261 : 0 ≤ (x44_3 : Int):=of_decide_eq_true (by first|(with_reducible assumption)|assumption);have q261 : x44_3 < (l0_1.length : Int):=of_decide_eq_true (by first|(with_reducible assumption)|assumption);obtain ⟨ad261,e261,hx261_0,hx261_1,hx261_2⟩:=at_T56 HR0_1.out x44_3 p261 q261;cases e261;replace hx261_0:=(HB.out.cell (World.block_lt_of_cell? w _ hx261_0)).trans hx261_0;replace hx261_1:=(HB.out.cell (World.block_lt_of_cell? w _ hx261_1)).trans hx261_1;replace hx261_2:=(HB.out.cell (World.block_lt_of_cell? w _ hx261_2)).trans hx261_2;replace p261:=eq_true p261;replace q261:=eq_true q261
               try go_wp2_with (first|((with_reducible refine gate_dst (N:=6) rfl ?_);(try (refine gate_guard (by rfl) ?_;dsimp only));refine box_event ?hg (N:=6) ?hd (cs:=#[.int .i64 0,.int .i64 0,.int .i64 0]) (t:=56) ?hr ?_;(case hd => rfl);(case hg => rfl);(case hr => first|(go_simp;done)|(go_simp;rfl));intro gb262 hg w39 hbox hb;have n0_:=Am (kB_ BK256 hb);have n1_:=Am (below_step (bL HB) hb);have n2_:=Am (hbox);have n3_:=Am ((gS_ hg HB));have n4_:=Am ((gS_ hg HB));have n5_:=Am ((gM_ hg BK256));have n6_:=Am ((gN_ hg BK256));clear BK256;clear HB;have BK256:=n0_;have HB:=n1_;have BK262:=n2_;have GW262:=n3_;have GE262:=n4_;have NB256_262:=n5_;have NB262_256:=n6_;clear n0_ n1_ n2_ n3_ n4_ n5_ n6_;clear hb hbox hg;have hnb40:=NB262_256.out;have hnc40:=NB256_262.out;have hcz41_0:=cC_ BK262 0 rfl;have hcz41_1:=cC_ BK262 1 rfl;have hcz41_2:=cC_ BK262 2 rfl;have hfz41_0:=kF BK262.out 0;have hfz41_1:=kF BK262.out 1;have hfz41_2:=kF BK262.out 2))
               have n0_ : As ((((w39.setCell ⟨gb262,0,none⟩ (.int .i64 ((rd_T56 l0_1 x44_3).f0))).setCell ⟨gb262,1,none⟩ (.int .i64 ((rd_T56 l0_1 x44_3).f1))).setCell ⟨gb262,2,none⟩ (.int .i64 ((rd_T56 l0_1 x44_3).f2))).heap[gb256]? = some (.cells #[.slice A0_0 l0_0.length c0_0,.slice (some ad261) l0_1.length c0_1,.int .i64 a0_2,.int .i64 a0_3,.int .i64 a0_4] 26 (0,0))):=⟨by (with_reducible repeat (first|refine kN ?_ _|refine kD ?_|refine kA ?_ _));refine blk_far ?_ NB256_262.out _;(with_reducible repeat (first|refine kN ?_ _|refine kD ?_|refine kA ?_ _));refine blk_far ?_ NB256_262.out _;(with_reducible repeat (first|refine kN ?_ _|refine kD ?_|refine kA ?_ _));refine blk_far ?_ NB256_262.out _;(with_reducible repeat (first|refine kN ?_ _|refine kD ?_|refine kA ?_ _));exact BK256.out⟩
               have n1_ : As ((((w39.setCell ⟨gb262,0,none⟩ (.int .i64 ((rd_T56 l0_1 x44_3).f0))).setCell ⟨gb262,1,none⟩ (.int .i64 ((rd_T56 l0_1 x44_3).f1))).setCell ⟨gb262,2,none⟩ (.int .i64 ((rd_T56 l0_1 x44_3).f2))).heap[gb262]? = some (.cells #[.int .i64 ((rd_T56 l0_1 x44_3).f0),.int .i64 ((rd_T56 l0_1 x44_3).f1),.int .i64 ((rd_T56 l0_1 x44_3).f2)] 56 (0,0))):=⟨by (with_reducible repeat (first|refine kN ?_ _|refine kD ?_|refine kA ?_ _));refine blk_put (cs:=#[.int .i64 ((rd_T56 l0_1 x44_3).f0),.int .i64 ((rd_T56 l0_1 x44_3).f1),.int .i64 0]) ?_ 2 _ rfl;(with_reducible repeat (first|refine kN ?_ _|refine kD ?_|refine kA ?_ _));refine blk_put (cs:=#[.int .i64 ((rd_T56 l0_1 x44_3).f0),.int .i64 0,.int .i64 0]) ?_ 1 _ rfl;(with_reducible repeat (first|refine kN ?_ _|refine kD ?_|refine kA ?_ _));refine blk_put (cs:=#[.int .i64 0,.int .i64 0,.int .i64 0]) ?_ 0 _ rfl;(with_reducible repeat (first|refine kN ?_ _|refine kD ?_|refine kA ?_ _));exact BK262.out⟩
               have n2_ : As (Below w.heap.size w (((w39.setCell ⟨gb262,0,none⟩ (.int .i64 ((rd_T56 l0_1 x44_3).f0))).setCell ⟨gb262,1,none⟩ (.int .i64 ((rd_T56 l0_1 x44_3).f1))).setCell ⟨gb262,2,none⟩ (.int .i64 ((rd_T56 l0_1 x44_3).f2)))):=⟨bL HB⟩
               (try clear BK256);(try clear BK262);(try clear HB);generalize (((w39.setCell ⟨gb262,0,none⟩ (.int .i64 ((rd_T56 l0_1 x44_3).f0))).setCell ⟨gb262,1,none⟩ (.int .i64 ((rd_T56 l0_1 x44_3).f1))).setCell ⟨gb262,2,none⟩ (.int .i64 ((rd_T56 l0_1 x44_3).f2))) = w42 at n0_ n1_ n2_ ⊢;have BK256:=n0_;have BK262:=n1_;have HB:=n2_;clear n0_ n1_ n2_;have n0_:=Am (kD BK256.out);have n1_:=Am (kD BK262.out);have n2_:=Am (bD HB.out);clear BK256;clear BK262;clear HB;have BK256:=n0_;have BK262:=n1_;have HB:=n2_;clear n0_ n1_ n2_;refine start_ (n:=22) (S:=fun w' => w'.cell? ⟨gb262,0,none⟩ = some (.int .i64 ((rd_T56 l0_1 x44_3).f0))∧w'.cell? ⟨gb262,1,none⟩ = some (.int .i64 ((rd_T56 l0_1 x44_3).f1))∧w'.cell? ⟨gb262,2,none⟩ = some (.int .i64 ((rd_T56 l0_1 x44_3).f2))∧w'.cell? ⟨gb256,0,none⟩ = some (.slice A0_0 l0_0.length c0_0)∧w'.cell? ⟨gb256,1,none⟩ = some (.slice (some ad261) l0_1.length c0_1)∧w'.cell? ⟨gb256,2,none⟩ = some (.int .i64 a0_2)∧w'.cell? ⟨gb256,3,none⟩ = some (.int .i64 a0_3)∧w'.cell? ⟨gb256,4,none⟩ = some (.int .i64 a0_4)) (ds:=[]) #[false,false,false,false,false,false,false,false,false,false,false,false,false,false,false,false,false,false,false,false,false,false] (by kernel_rfl) rfl rfl ⟨cC_ BK262 0 rfl,cC_ BK262 1 rfl,cC_ BK262 2 rfl,cC_ BK256 0 rfl,cC_ BK256 1 rfl,cC_ BK256 2 rfl,cC_ BK256 3 rfl,cC_ BK256 4 rfl⟩ (fun hHeld => ?_);refine with_tabW spec_ProfileOk.tab12 spec_ProfileOk.bits12 (fun HT_ HW_ => ?_);generalize w42.drew = w43 at BK256 BK262 HB hHeld ⊢;refine pure_ (i:=0) (N:=some 48) (v:=?_) (a':=?_) #[true,false,false,false,false,false,false,false,false,false,false,false,false,false,false,false,false,false,false,false,false,false] rfl rfl (any_of HT_.out (by kernel_rfl)) (fun _ _ _ h => h) (Or.inl ⟨by rfl,?_⟩) ?_ ?_;rotate_left
               ·intro w'
                go_simp
                with_reducible rfl
               rotate_left
               ·simp only [Act.put,pS]
                rfl
               refine take_ (i:=1) (N:=some 49) (v:=?_) (a':=?_) #[true,true,false,false,false,false,false,false,false,false,false,false,false,false,false,false,false,false,false,false,false,false] rfl rfl (take_ofW HT_.out HW_.out (by kernel_rfl)) (fun _ _ _ h => h) (Or.inl ⟨by rfl,?_⟩) hHeld ?_ ?_;rotate_left
               ·rintro w' ⟨s0,s1,s2,s3,s4,s5,s6,s7⟩
                go_simp
                with_reducible rfl
               rotate_left
               ·simp only [Act.put,pS]
                rfl
               refine take_ (i:=2) (N:=some 50) (v:=?_) (a':=?_) #[true,true,true,false,false,false,false,false,false,false,false,false,false,false,false,false,false,false,false,false,false,false] rfl rfl (take_ofW HT_.out HW_.out (by kernel_rfl)) (fun _ _ _ h => h) (Or.inl ⟨by rfl,?_⟩) hHeld ?_ ?_;rotate_left
               ·rintro w' ⟨s0,s1,s2,s3,s4,s5,s6,s7⟩
                go_simp
                with_reducible rfl
               rotate_left
               ·simp only [Act.put,pS]
                rfl
               refine one_ (i:=3) (N:=some 51) #[true,true,true,true,false,false,false,false,false,false,false,false,false,false,false,false,false,false,false,false,false,false] rfl rfl (one_of HT_.out (by kernel_rfl)) (by decide) (fun K hK => ?_);refine goes_ Tryd.func36 (by kernel_rfl) rfl #[.agg #[.slice A0_0 l0_0.length c0_0,.slice (some ad261) l0_1.length c0_1,.int .i64 a0_2,.int .i64 a0_3,.int .i64 a0_4]] (by rfl) rfl rfl lA ?_
               with_reducible refine (spec_l2total.calls k3 _ _ l0_0 _ _ l0_1 a0_2 a0_3 a0_4 t263 _ ?side1 ?side2 ?side3 ?side4 A31.out).mono ?_
               (case side1 => exact cL_ HR0_0 HB)
               (case side2 => exact HC0_0.out)
               (case side3 => exact cL_ HR0_1 HB)
               (case side4 => exact HC0_1.out)
               rintro e w44 ⟨rfl,hb⟩;refine ⟨_,rfl,?_⟩;have n0_:=Am (kB_ BK256 hb);have n1_:=Am (kB_ BK262 hb);have n2_:=Am (below_step (bL HB) hb);clear BK256;clear BK262;clear HB;have BK256:=n0_;have BK262:=n1_;have HB:=n2_;clear n0_ n1_ n2_;(try clear hb);(try clear hb2);(try clear hk);(try clear hi);refine hK.out _ _ ⟨cC_ BK262 0 rfl,cC_ BK262 1 rfl,cC_ BK262 2 rfl,cC_ BK256 0 rfl,cC_ BK256 1 rfl,cC_ BK256 2 rfl,cC_ BK256 3 rfl,cC_ BK256 4 rfl⟩ (fun hHeld => ?_);clear hK K;refine norm_ (a':=?_) ?_ ?_;rotate_left
               ·show Act.put _ (some 51) _ = _
                simp only [Act.put,pS]
                rfl
               refine one_ (i:=4) (N:=some 52) #[true,true,true,true,true,false,false,false,false,false,false,false,false,false,false,false,false,false,false,false,false,false] rfl rfl (one_of HT_.out (by kernel_rfl)) (by decide) (fun K hK => ?_);refine goes_ Tryd.func34 (by kernel_rfl) rfl #[.int .i64 ((rd_T56 l0_1 x44_3).f0),.int .i64 0,.int .i64 t263] (by rfl) rfl rfl lA ?_
               with_reducible refine (spec_l1in.calls ((rd_T56 l0_1 x44_3).f0) 0 t263 true _ A32.out).mono ?_
               rintro e w' ⟨rfl,⟨nd,rfl⟩⟩;refine ⟨_,rfl,?_⟩;refine hK.out _ _ ⟨cC_ BK262 0 rfl,cC_ BK262 1 rfl,cC_ BK262 2 rfl,cC_ BK256 0 rfl,cC_ BK256 1 rfl,cC_ BK256 2 rfl,cC_ BK256 3 rfl,cC_ BK256 4 rfl⟩ (fun hHeld => ?_);clear hK K;refine norm_ (a':=?_) ?_ ?_;rotate_left
               ·show Act.put _ (some 52) _ = _
                simp only [Act.put,pS]
                rfl
               refine pure_ (i:=5) (N:=some 53) (v:=?_) (a':=?_) #[true,true,true,true,true,true,false,false,false,false,false,false,false,false,false,false,false,false,false,false,false,false] rfl rfl (any_of HT_.out (by kernel_rfl)) (fun _ _ _ h => h) (Or.inl ⟨by rfl,?_⟩) ?_ ?_;rotate_left
               ·intro w'
                go_simp
                with_reducible rfl
               rotate_left
               ·simp only [Act.put,pS]
                rfl
               refine pure_ (i:=6) (N:=some 54) (v:=?_) (a':=?_) #[true,true,true,true,true,true,true,false,false,false,false,false,false,false,false,false,false,false,false,false,false,false] rfl rfl (any_of HT_.out (by kernel_rfl)) (fun _ _ _ h => h) (Or.inl ⟨by rfl,?_⟩) ?_ ?_;rotate_left
               ·intro w'
                go_simp
                with_reducible rfl
               rotate_left
               ·simp only [Act.put,pS]
                rfl
               refine pure_ (i:=7) (N:=some 55) (v:=?_) (a':=?_) #[true,true,true,true,true,true,true,true,false,false,false,false,false,false,false,false,false,false,false,false,false,false] rfl rfl (any_of HT_.out (by kernel_rfl)) (fun _ _ _ h => h) (Or.inl ⟨by rfl,?_⟩) ?_ ?_;rotate_left
               ·intro w'
                go_simp
                with_reducible rfl
               rotate_left
               ·simp only [Act.put,pS]
                rfl
               refine pure_ (i:=9) (N:=some 57) (v:=?_) (a':=?_) #[true,true,true,true,true,true,true,true,false,true,false,false,false,false,false,false,false,false,false,false,false,false] rfl rfl (any_of HT_.out (by kernel_rfl)) (fun _ _ _ h => h) (Or.inl ⟨by rfl,?_⟩) ?_ ?_;rotate_left
               ·intro w'
                go_simp
                with_reducible rfl
               rotate_left
               ·simp only [Act.put,pS]
                rfl
               refine take_ (i:=8) (N:=some 56) (v:=?_) (a':=?_) #[true,true,true,true,true,true,true,true,true,true,false,false,false,false,false,false,false,false,false,false,false,false] rfl rfl (take_ofW HT_.out HW_.out (by kernel_rfl)) (fun _ _ _ h => h) (Or.inl ⟨by rfl,?_⟩) hHeld ?_ ?_;rotate_left
               ·rintro w' ⟨s0,s1,s2,s3,s4,s5,s6,s7⟩
                go_simp
                with_reducible rfl
               rotate_left
               ·simp only [Act.put,pS]
                rfl
               refine take_ (i:=10) (N:=some 58) (v:=?_) (a':=?_) #[true,true,true,true,true,true,true,true,true,true,true,false,false,false,false,false,false,false,false,false,false,false] rfl rfl (take_ofW HT_.out HW_.out (by kernel_rfl)) (fun _ _ _ h => h) (Or.inl ⟨by rfl,?_⟩) hHeld ?_ ?_;rotate_left
               ·rintro w' ⟨s0,s1,s2,s3,s4,s5,s6,s7⟩
                go_simp
                with_reducible rfl
               rotate_left
               ·simp only [Act.put,pS]
                rfl
               refine take_ (i:=11) (N:=some 59) (v:=?_) (a':=?_) #[true,true,true,true,true,true,true,true,true,true,true,true,false,false,false,false,false,false,false,false,false,false] rfl rfl (take_ofW HT_.out HW_.out (by kernel_rfl)) (fun _ _ _ h => h) (Or.inl ⟨by rfl,?_⟩) hHeld ?_ ?_;rotate_left
               ·rintro w' ⟨s0,s1,s2,s3,s4,s5,s6,s7⟩
                go_simp
                with_reducible rfl
               rotate_left
               ·simp only [Act.put,pS]
                rfl
               refine one_ (i:=12) (N:=some 60) #[true,true,true,true,true,true,true,true,true,true,true,true,true,false,false,false,false,false,false,false,false,false] rfl rfl (one_of HT_.out (by kernel_rfl)) (by decide) (fun K hK => ?_);refine goes_ Tryd.func36 (by kernel_rfl) rfl #[.agg #[.slice A0_0 l0_0.length c0_0,.slice (some ad261) l0_1.length c0_1,.int .i64 a0_2,.int .i64 a0_3,.int .i64 a0_4]] (by rfl) rfl rfl lA ?_
               with_reducible refine (spec_l2total.calls k3 _ _ l0_0 _ _ l0_1 a0_2 a0_3 a0_4 t265 _ ?side1 ?side2 ?side3 ?side4 A34.out).mono ?_
               (case side1 => repeat (first|exact (Kd.C_below HR0_0.out (bL HB))|(with_reducible refine Kd.C_alloc ?_ _)|(with_reducible refine Kd.C_drewN ?_ _)|(with_reducible refine Kd.C_drew ?_)))
               (case side2 => exact HC0_0.out)
               (case side3 => repeat (first|exact (Kd.C_below HR0_1.out (bL HB))|(with_reducible refine Kd.C_alloc ?_ _)|(with_reducible refine Kd.C_drewN ?_ _)|(with_reducible refine Kd.C_drew ?_)))
               (case side4 => exact HC0_1.out)
               rintro e w45 ⟨rfl,hb⟩;refine ⟨_,rfl,?_⟩;have n0_:=Am (kB_ BK256 hb);have n1_:=Am (kB_ BK262 hb);have n2_:=Am (below_step (bL HB) hb);clear BK256;clear BK262;clear HB;have BK256:=n0_;have BK262:=n1_;have HB:=n2_;clear n0_ n1_ n2_;(try clear hb);(try clear hb2);(try clear hk);(try clear hi);refine hK.out _ _ ⟨cC_ BK262 0 rfl,cC_ BK262 1 rfl,cC_ BK262 2 rfl,cC_ BK256 0 rfl,cC_ BK256 1 rfl,cC_ BK256 2 rfl,cC_ BK256 3 rfl,cC_ BK256 4 rfl⟩ (fun hHeld => ?_);clear hK K;refine norm_ (a':=?_) ?_ ?_;rotate_left
               ·show Act.put _ (some 60) _ = _
                simp only [Act.put,pS]
                rfl
               refine one_ (i:=13) (N:=some 61) #[true,true,true,true,true,true,true,true,true,true,true,true,true,true,false,false,false,false,false,false,false,false] rfl rfl (one_of HT_.out (by kernel_rfl)) (by decide) (fun K hK => ?_);refine goes_ Tryd.func34 (by kernel_rfl) rfl #[.int .i64 ((rd_T56 l0_1 x44_3).f1),.int .i64 ((rd_T56 l0_1 x44_3).f0),.int .i64 t265] (by rfl) rfl rfl lA ?_
               with_reducible refine (spec_l1in.calls ((rd_T56 l0_1 x44_3).f1) ((rd_T56 l0_1 x44_3).f0) t265 true _ A35.out).mono ?_
               rintro e w' ⟨rfl,⟨nd,rfl⟩⟩;refine ⟨_,rfl,?_⟩;refine hK.out _ _ ⟨cC_ BK262 0 rfl,cC_ BK262 1 rfl,cC_ BK262 2 rfl,cC_ BK256 0 rfl,cC_ BK256 1 rfl,cC_ BK256 2 rfl,cC_ BK256 3 rfl,cC_ BK256 4 rfl⟩ (fun hHeld => ?_);clear hK K;refine norm_ (a':=?_) ?_ ?_;rotate_left
               ·show Act.put _ (some 61) _ = _
                simp only [Act.put,pS]
                rfl
               refine pure_ (i:=14) (N:=some 62) (v:=?_) (a':=?_) #[true,true,true,true,true,true,true,true,true,true,true,true,true,true,true,false,false,false,false,false,false,false] rfl rfl (any_of HT_.out (by kernel_rfl)) (fun _ _ _ h => h) (Or.inl ⟨by rfl,?_⟩) ?_ ?_;rotate_left
               ·intro w'
                go_simp
                with_reducible rfl
               rotate_left
               ·simp only [Act.put,pS]
                rfl
               refine pure_ (i:=15) (N:=some 63) (v:=?_) (a':=?_) #[true,true,true,true,true,true,true,true,true,true,true,true,true,true,true,true,false,false,false,false,false,false] rfl rfl (any_of HT_.out (by kernel_rfl)) (fun _ _ _ h => h) (Or.inl ⟨by rfl,?_⟩) ?_ ?_;rotate_left
               ·intro w'
                go_simp
                with_reducible rfl
               rotate_left
               ·simp only [Act.put,pS]
                rfl
               refine pure_ (i:=16) (N:=some 64) (v:=?_) (a':=?_) #[true,true,true,true,true,true,true,true,true,true,true,true,true,true,true,true,true,false,false,false,false,false] rfl rfl (any_of HT_.out (by kernel_rfl)) (fun _ _ _ h => h) (Or.inl ⟨by rfl,?_⟩) ?_ ?_;rotate_left
               ·intro w'
                go_simp
                with_reducible rfl
               rotate_left
               ·simp only [Act.put,pS]
                rfl
               refine pure_ (i:=17) (N:=some 65) (v:=?_) (a':=?_) #[true,true,true,true,true,true,true,true,true,true,true,true,true,true,true,true,true,true,false,false,false,false] rfl rfl (any_of HT_.out (by kernel_rfl)) (fun _ _ _ h => h) (Or.inl ⟨by rfl,?_⟩) ?_ ?_;rotate_left
               ·intro w'
                go_simp
                with_reducible rfl
               rotate_left
               ·simp only [Act.put,pS]
                rfl
               refine take_ (i:=18) (N:=some 66) (v:=?_) (a':=?_) #[true,true,true,true,true,true,true,true,true,true,true,true,true,true,true,true,true,true,true,false,false,false] rfl rfl (take_ofW HT_.out HW_.out (by kernel_rfl)) (fun _ _ _ h => h) (Or.inl ⟨by rfl,?_⟩) hHeld ?_ ?_;rotate_left
               ·rintro w' ⟨s0,s1,s2,s3,s4,s5,s6,s7⟩
                go_simp
                with_reducible rfl
               rotate_left
               ·simp only [Act.put,pS]
                rfl
               refine one_ (i:=19) (N:=some 67) #[true,true,true,true,true,true,true,true,true,true,true,true,true,true,true,true,true,true,true,true,false,false] rfl rfl (one_of HT_.out (by kernel_rfl)) (by decide) (fun K hK => ?_);refine goes_ Tryd.func34 (by kernel_rfl) rfl #[.int .i64 ((rd_T56 l0_1 x44_3).f2),.int .i64 1,.int .i64 10000] (by rfl) rfl rfl lA ?_
               with_reducible refine (spec_l1in.calls ((rd_T56 l0_1 x44_3).f2) 1 10000 true _ A37.out).mono ?_
               rintro e w' ⟨rfl,⟨nd,rfl⟩⟩;refine ⟨_,rfl,?_⟩;refine hK.out _ _ ⟨cC_ BK262 0 rfl,cC_ BK262 1 rfl,cC_ BK262 2 rfl,cC_ BK256 0 rfl,cC_ BK256 1 rfl,cC_ BK256 2 rfl,cC_ BK256 3 rfl,cC_ BK256 4 rfl⟩ (fun hHeld => ?_);clear hK K;refine norm_ (a':=?_) ?_ ?_;rotate_left
               ·show Act.put _ (some 67) _ = _
                simp only [Act.put,pS]
                rfl
               refine pure_ (i:=20) (N:=some 68) (v:=?_) (a':=?_) #[true,true,true,true,true,true,true,true,true,true,true,true,true,true,true,true,true,true,true,true,true,false] rfl rfl (any_of HT_.out (by kernel_rfl)) (fun _ _ _ h => h) (Or.inl ⟨by rfl,?_⟩) ?_ ?_;rotate_left
               ·intro w'
                go_simp
                with_reducible rfl
               rotate_left
               ·simp only [Act.put,pS]
                rfl
               refine pure_ (i:=21) (N:=some 69) (v:=?_) (a':=?_) #[true,true,true,true,true,true,true,true,true,true,true,true,true,true,true,true,true,true,true,true,true,true] rfl rfl (any_of HT_.out (by kernel_rfl)) (fun _ _ _ h => h) (Or.inl ⟨by rfl,?_⟩) ?_ ?_;rotate_left
               ·intro w'
                go_simp
                with_reducible rfl
               rotate_left
               ·simp only [Act.put,pS]
                rfl
               refine done_ (done_of HT_.out (by kernel_rfl)) ?_
               try go_wp2
               go_roundg k3
               case measure => have:=HJ1.out;have:=HK2.out;have:=HK3.out;omega
               case rel => exact ⟨(wrap64 (x44_3 + 1)),vL_,H',⟨by have:=HJ1.out;have:=HK2.out;have:=HK3.out;omega⟩,⟨kL BK256⟩,⟨bL HB⟩⟩
              ·replace c38:=Bool.eq_false_iff.mpr c38;subst c38
               rw [if_neg (show ¬ (false = true) by decide)] at H;obtain rfl:=Option.some.inj H;have p261 : 0 ≤ (x44_3 : Int):=of_decide_eq_true (by first|(with_reducible assumption)|assumption);have q261 : x44_3 < (l0_1.length : Int):=of_decide_eq_true (by first|(with_reducible assumption)|assumption);obtain ⟨ad261,e261,hx261_0,hx261_1,hx261_2⟩:=at_T56 HR0_1.out x44_3 p261 q261;cases e261;replace hx261_0:=(HB.out.cell (World.block_lt_of_cell? w _ hx261_0)).trans hx261_0;replace hx261_1:=(HB.out.cell (World.block_lt_of_cell? w _ hx261_1)).trans hx261_1;replace hx261_2:=(HB.out.cell (World.block_lt_of_cell? w _ hx261_2)).trans hx261_2;replace p261:=eq_true p261;replace q261:=eq_true q261
               try go_wp2_with (first|((with_reducible refine gate_dst (N:=6) rfl ?_);(try (refine gate_guard (by rfl) ?_;dsimp only));refine box_event ?hg (N:=6) ?hd (cs:=#[.int .i64 0,.int .i64 0,.int .i64 0]) (t:=56) ?hr ?_;(case hd => rfl);(case hg => rfl);(case hr => first|(go_simp;done)|(go_simp;rfl));intro gb262 hg w46 hbox hb;have n0_:=Am (kB_ BK256 hb);have n1_:=Am (below_step (bL HB) hb);have n2_:=Am (hbox);have n3_:=Am ((gS_ hg HB));have n4_:=Am ((gS_ hg HB));have n5_:=Am ((gM_ hg BK256));have n6_:=Am ((gN_ hg BK256));clear BK256;clear HB;have BK256:=n0_;have HB:=n1_;have BK262:=n2_;have GW262:=n3_;have GE262:=n4_;have NB256_262:=n5_;have NB262_256:=n6_;clear n0_ n1_ n2_ n3_ n4_ n5_ n6_;clear hb hbox hg;have hnb47:=NB262_256.out;have hnc47:=NB256_262.out;have hcz48_0:=cC_ BK262 0 rfl;have hcz48_1:=cC_ BK262 1 rfl;have hcz48_2:=cC_ BK262 2 rfl;have hfz48_0:=kF BK262.out 0;have hfz48_1:=kF BK262.out 1;have hfz48_2:=kF BK262.out 2))
               have n0_ : As ((((w46.setCell ⟨gb262,0,none⟩ (.int .i64 ((rd_T56 l0_1 x44_3).f0))).setCell ⟨gb262,1,none⟩ (.int .i64 ((rd_T56 l0_1 x44_3).f1))).setCell ⟨gb262,2,none⟩ (.int .i64 ((rd_T56 l0_1 x44_3).f2))).heap[gb256]? = some (.cells #[.slice A0_0 l0_0.length c0_0,.slice (some ad261) l0_1.length c0_1,.int .i64 a0_2,.int .i64 a0_3,.int .i64 a0_4] 26 (0,0))):=⟨by (with_reducible repeat (first|refine kN ?_ _|refine kD ?_|refine kA ?_ _));refine blk_far ?_ NB256_262.out _;(with_reducible repeat (first|refine kN ?_ _|refine kD ?_|refine kA ?_ _));refine blk_far ?_ NB256_262.out _;(with_reducible repeat (first|refine kN ?_ _|refine kD ?_|refine kA ?_ _));refine blk_far ?_ NB256_262.out _;(with_reducible repeat (first|refine kN ?_ _|refine kD ?_|refine kA ?_ _));exact BK256.out⟩
               have n1_ : As ((((w46.setCell ⟨gb262,0,none⟩ (.int .i64 ((rd_T56 l0_1 x44_3).f0))).setCell ⟨gb262,1,none⟩ (.int .i64 ((rd_T56 l0_1 x44_3).f1))).setCell ⟨gb262,2,none⟩ (.int .i64 ((rd_T56 l0_1 x44_3).f2))).heap[gb262]? = some (.cells #[.int .i64 ((rd_T56 l0_1 x44_3).f0),.int .i64 ((rd_T56 l0_1 x44_3).f1),.int .i64 ((rd_T56 l0_1 x44_3).f2)] 56 (0,0))):=⟨by (with_reducible repeat (first|refine kN ?_ _|refine kD ?_|refine kA ?_ _));refine blk_put (cs:=#[.int .i64 ((rd_T56 l0_1 x44_3).f0),.int .i64 ((rd_T56 l0_1 x44_3).f1),.int .i64 0]) ?_ 2 _ rfl;(with_reducible repeat (first|refine kN ?_ _|refine kD ?_|refine kA ?_ _));refine blk_put (cs:=#[.int .i64 ((rd_T56 l0_1 x44_3).f0),.int .i64 0,.int .i64 0]) ?_ 1 _ rfl;(with_reducible repeat (first|refine kN ?_ _|refine kD ?_|refine kA ?_ _));refine blk_put (cs:=#[.int .i64 0,.int .i64 0,.int .i64 0]) ?_ 0 _ rfl;(with_reducible repeat (first|refine kN ?_ _|refine kD ?_|refine kA ?_ _));exact BK262.out⟩
               have n2_ : As (Below w.heap.size w (((w46.setCell ⟨gb262,0,none⟩ (.int .i64 ((rd_T56 l0_1 x44_3).f0))).setCell ⟨gb262,1,none⟩ (.int .i64 ((rd_T56 l0_1 x44_3).f1))).setCell ⟨gb262,2,none⟩ (.int .i64 ((rd_T56 l0_1 x44_3).f2)))):=⟨bL HB⟩
               (try clear BK256);(try clear BK262);(try clear HB);generalize (((w46.setCell ⟨gb262,0,none⟩ (.int .i64 ((rd_T56 l0_1 x44_3).f0))).setCell ⟨gb262,1,none⟩ (.int .i64 ((rd_T56 l0_1 x44_3).f1))).setCell ⟨gb262,2,none⟩ (.int .i64 ((rd_T56 l0_1 x44_3).f2))) = w49 at n0_ n1_ n2_ ⊢;have BK256:=n0_;have BK262:=n1_;have HB:=n2_;clear n0_ n1_ n2_;have n0_:=Am (kD BK256.out);have n1_:=Am (kD BK262.out);have n2_:=Am (bD HB.out);clear BK256;clear BK262;clear HB;have BK256:=n0_;have BK262:=n1_;have HB:=n2_;clear n0_ n1_ n2_;refine start_ (n:=22) (S:=fun w' => w'.cell? ⟨gb262,0,none⟩ = some (.int .i64 ((rd_T56 l0_1 x44_3).f0))∧w'.cell? ⟨gb262,1,none⟩ = some (.int .i64 ((rd_T56 l0_1 x44_3).f1))∧w'.cell? ⟨gb262,2,none⟩ = some (.int .i64 ((rd_T56 l0_1 x44_3).f2))∧w'.cell? ⟨gb256,0,none⟩ = some (.slice A0_0 l0_0.length c0_0)∧w'.cell? ⟨gb256,1,none⟩ = some (.slice (some ad261) l0_1.length c0_1)∧w'.cell? ⟨gb256,2,none⟩ = some (.int .i64 a0_2)∧w'.cell? ⟨gb256,3,none⟩ = some (.int .i64 a0_3)∧w'.cell? ⟨gb256,4,none⟩ = some (.int .i64 a0_4)) (ds:=[]) #[false,false,false,false,false,false,false,false,false,false,false,false,false,false,false,false,false,false,false,false,false,false] (by kernel_rfl) rfl rfl ⟨cC_ BK262 0 rfl,cC_ BK262 1 rfl,cC_ BK262 2 rfl,cC_ BK256 0 rfl,cC_ BK256 1 rfl,cC_ BK256 2 rfl,cC_ BK256 3 rfl,cC_ BK256 4 rfl⟩ (fun hHeld => ?_);refine with_tabW spec_ProfileOk.tab12 spec_ProfileOk.bits12 (fun HT_ HW_ => ?_);generalize w49.drew = w50 at BK256 BK262 HB hHeld ⊢;refine pure_ (i:=0) (N:=some 48) (v:=?_) (a':=?_) #[true,false,false,false,false,false,false,false,false,false,false,false,false,false,false,false,false,false,false,false,false,false] rfl rfl (any_of HT_.out (by kernel_rfl)) (fun _ _ _ h => h) (Or.inl ⟨by rfl,?_⟩) ?_ ?_;rotate_left
               ·intro w'
                go_simp
                with_reducible rfl
               rotate_left
               ·simp only [Act.put,pS]
                rfl
               refine take_ (i:=1) (N:=some 49) (v:=?_) (a':=?_) #[true,true,false,false,false,false,false,false,false,false,false,false,false,false,false,false,false,false,false,false,false,false] rfl rfl (take_ofW HT_.out HW_.out (by kernel_rfl)) (fun _ _ _ h => h) (Or.inl ⟨by rfl,?_⟩) hHeld ?_ ?_;rotate_left
               ·rintro w' ⟨s0,s1,s2,s3,s4,s5,s6,s7⟩
                go_simp
                with_reducible rfl
               rotate_left
               ·simp only [Act.put,pS]
                rfl
               refine take_ (i:=2) (N:=some 50) (v:=?_) (a':=?_) #[true,true,true,false,false,false,false,false,false,false,false,false,false,false,false,false,false,false,false,false,false,false] rfl rfl (take_ofW HT_.out HW_.out (by kernel_rfl)) (fun _ _ _ h => h) (Or.inl ⟨by rfl,?_⟩) hHeld ?_ ?_;rotate_left
               ·rintro w' ⟨s0,s1,s2,s3,s4,s5,s6,s7⟩
                go_simp
                with_reducible rfl
               rotate_left
               ·simp only [Act.put,pS]
                rfl
               refine one_ (i:=3) (N:=some 51) #[true,true,true,true,false,false,false,false,false,false,false,false,false,false,false,false,false,false,false,false,false,false] rfl rfl (one_of HT_.out (by kernel_rfl)) (by decide) (fun K hK => ?_);refine goes_ Tryd.func36 (by kernel_rfl) rfl #[.agg #[.slice A0_0 l0_0.length c0_0,.slice (some ad261) l0_1.length c0_1,.int .i64 a0_2,.int .i64 a0_3,.int .i64 a0_4]] (by rfl) rfl rfl lA ?_
               with_reducible refine (spec_l2total.calls k3 _ _ l0_0 _ _ l0_1 a0_2 a0_3 a0_4 t263 _ ?side1 ?side2 ?side3 ?side4 A31.out).mono ?_
               (case side1 => exact cL_ HR0_0 HB)
               (case side2 => exact HC0_0.out)
               (case side3 => exact cL_ HR0_1 HB)
               (case side4 => exact HC0_1.out)
               rintro e w51 ⟨rfl,hb⟩;refine ⟨_,rfl,?_⟩;have n0_:=Am (kB_ BK256 hb);have n1_:=Am (kB_ BK262 hb);have n2_:=Am (below_step (bL HB) hb);clear BK256;clear BK262;clear HB;have BK256:=n0_;have BK262:=n1_;have HB:=n2_;clear n0_ n1_ n2_;(try clear hb);(try clear hb2);(try clear hk);(try clear hi);refine hK.out _ _ ⟨cC_ BK262 0 rfl,cC_ BK262 1 rfl,cC_ BK262 2 rfl,cC_ BK256 0 rfl,cC_ BK256 1 rfl,cC_ BK256 2 rfl,cC_ BK256 3 rfl,cC_ BK256 4 rfl⟩ (fun hHeld => ?_);clear hK K;refine norm_ (a':=?_) ?_ ?_;rotate_left
               ·show Act.put _ (some 51) _ = _
                simp only [Act.put,pS]
                rfl
               refine one_ (i:=4) (N:=some 52) #[true,true,true,true,true,false,false,false,false,false,false,false,false,false,false,false,false,false,false,false,false,false] rfl rfl (one_of HT_.out (by kernel_rfl)) (by decide) (fun K hK => ?_);refine goes_ Tryd.func34 (by kernel_rfl) rfl #[.int .i64 ((rd_T56 l0_1 x44_3).f0),.int .i64 0,.int .i64 t263] (by rfl) rfl rfl lA ?_
               with_reducible refine (spec_l1in.calls ((rd_T56 l0_1 x44_3).f0) 0 t263 true _ A32.out).mono ?_
               rintro e w' ⟨rfl,⟨nd,rfl⟩⟩;refine ⟨_,rfl,?_⟩;refine hK.out _ _ ⟨cC_ BK262 0 rfl,cC_ BK262 1 rfl,cC_ BK262 2 rfl,cC_ BK256 0 rfl,cC_ BK256 1 rfl,cC_ BK256 2 rfl,cC_ BK256 3 rfl,cC_ BK256 4 rfl⟩ (fun hHeld => ?_);clear hK K;refine norm_ (a':=?_) ?_ ?_;rotate_left
               ·show Act.put _ (some 52) _ = _
                simp only [Act.put,pS]
                rfl
               refine pure_ (i:=5) (N:=some 53) (v:=?_) (a':=?_) #[true,true,true,true,true,true,false,false,false,false,false,false,false,false,false,false,false,false,false,false,false,false] rfl rfl (any_of HT_.out (by kernel_rfl)) (fun _ _ _ h => h) (Or.inl ⟨by rfl,?_⟩) ?_ ?_;rotate_left
               ·intro w'
                go_simp
                with_reducible rfl
               rotate_left
               ·simp only [Act.put,pS]
                rfl
               refine pure_ (i:=6) (N:=some 54) (v:=?_) (a':=?_) #[true,true,true,true,true,true,true,false,false,false,false,false,false,false,false,false,false,false,false,false,false,false] rfl rfl (any_of HT_.out (by kernel_rfl)) (fun _ _ _ h => h) (Or.inl ⟨by rfl,?_⟩) ?_ ?_;rotate_left
               ·intro w'
                go_simp
                with_reducible rfl
               rotate_left
               ·simp only [Act.put,pS]
                rfl
               refine pure_ (i:=7) (N:=some 55) (v:=?_) (a':=?_) #[true,true,true,true,true,true,true,true,false,false,false,false,false,false,false,false,false,false,false,false,false,false] rfl rfl (any_of HT_.out (by kernel_rfl)) (fun _ _ _ h => h) (Or.inl ⟨by rfl,?_⟩) ?_ ?_;rotate_left
               ·intro w'
                go_simp
                with_reducible rfl
               rotate_left
               ·simp only [Act.put,pS]
                rfl
               refine pure_ (i:=9) (N:=some 57) (v:=?_) (a':=?_) #[true,true,true,true,true,true,true,true,false,true,false,false,false,false,false,false,false,false,false,false,false,false] rfl rfl (any_of HT_.out (by kernel_rfl)) (fun _ _ _ h => h) (Or.inl ⟨by rfl,?_⟩) ?_ ?_;rotate_left
               ·intro w'
                go_simp
                with_reducible rfl
               rotate_left
               ·simp only [Act.put,pS]
                rfl
               refine take_ (i:=8) (N:=some 56) (v:=?_) (a':=?_) #[true,true,true,true,true,true,true,true,true,true,false,false,false,false,false,false,false,false,false,false,false,false] rfl rfl (take_ofW HT_.out HW_.out (by kernel_rfl)) (fun _ _ _ h => h) (Or.inl ⟨by rfl,?_⟩) hHeld ?_ ?_;rotate_left
               ·rintro w' ⟨s0,s1,s2,s3,s4,s5,s6,s7⟩
                go_simp
                with_reducible rfl
               rotate_left
               ·simp only [Act.put,pS]
                rfl
               refine take_ (i:=10) (N:=some 58) (v:=?_) (a':=?_) #[true,true,true,true,true,true,true,true,true,true,true,false,false,false,false,false,false,false,false,false,false,false] rfl rfl (take_ofW HT_.out HW_.out (by kernel_rfl)) (fun _ _ _ h => h) (Or.inl ⟨by rfl,?_⟩) hHeld ?_ ?_;rotate_left
               ·rintro w' ⟨s0,s1,s2,s3,s4,s5,s6,s7⟩
                go_simp
                with_reducible rfl
               rotate_left
               ·simp only [Act.put,pS]
                rfl
               refine take_ (i:=11) (N:=some 59) (v:=?_) (a':=?_) #[true,true,true,true,true,true,true,true,true,true,true,true,false,false,false,false,false,false,false,false,false,false] rfl rfl (take_ofW HT_.out HW_.out (by kernel_rfl)) (fun _ _ _ h => h) (Or.inl ⟨by rfl,?_⟩) hHeld ?_ ?_;rotate_left
               ·rintro w' ⟨s0,s1,s2,s3,s4,s5,s6,s7⟩
                go_simp
                with_reducible rfl
               rotate_left
               ·simp only [Act.put,pS]
                rfl
               refine one_ (i:=12) (N:=some 60) #[true,true,true,true,true,true,true,true,true,true,true,true,true,false,false,false,false,false,false,false,false,false] rfl rfl (one_of HT_.out (by kernel_rfl)) (by decide) (fun K hK => ?_);refine goes_ Tryd.func36 (by kernel_rfl) rfl #[.agg #[.slice A0_0 l0_0.length c0_0,.slice (some ad261) l0_1.length c0_1,.int .i64 a0_2,.int .i64 a0_3,.int .i64 a0_4]] (by rfl) rfl rfl lA ?_
               with_reducible refine (spec_l2total.calls k3 _ _ l0_0 _ _ l0_1 a0_2 a0_3 a0_4 t265 _ ?side1 ?side2 ?side3 ?side4 A34.out).mono ?_
               (case side1 => repeat (first|exact (Kd.C_below HR0_0.out (bL HB))|(with_reducible refine Kd.C_alloc ?_ _)|(with_reducible refine Kd.C_drewN ?_ _)|(with_reducible refine Kd.C_drew ?_)))
               (case side2 => exact HC0_0.out)
               (case side3 => repeat (first|exact (Kd.C_below HR0_1.out (bL HB))|(with_reducible refine Kd.C_alloc ?_ _)|(with_reducible refine Kd.C_drewN ?_ _)|(with_reducible refine Kd.C_drew ?_)))
               (case side4 => exact HC0_1.out)
               rintro e w52 ⟨rfl,hb⟩;refine ⟨_,rfl,?_⟩;have n0_:=Am (kB_ BK256 hb);have n1_:=Am (kB_ BK262 hb);have n2_:=Am (below_step (bL HB) hb);clear BK256;clear BK262;clear HB;have BK256:=n0_;have BK262:=n1_;have HB:=n2_;clear n0_ n1_ n2_;(try clear hb);(try clear hb2);(try clear hk);(try clear hi);refine hK.out _ _ ⟨cC_ BK262 0 rfl,cC_ BK262 1 rfl,cC_ BK262 2 rfl,cC_ BK256 0 rfl,cC_ BK256 1 rfl,cC_ BK256 2 rfl,cC_ BK256 3 rfl,cC_ BK256 4 rfl⟩ (fun hHeld => ?_);clear hK K;refine norm_ (a':=?_) ?_ ?_;rotate_left
               ·show Act.put _ (some 60) _ = _
                simp only [Act.put,pS]
                rfl
               refine one_ (i:=13) (N:=some 61) #[true,true,true,true,true,true,true,true,true,true,true,true,true,true,false,false,false,false,false,false,false,false] rfl rfl (one_of HT_.out (by kernel_rfl)) (by decide) (fun K hK => ?_);refine goes_ Tryd.func34 (by kernel_rfl) rfl #[.int .i64 ((rd_T56 l0_1 x44_3).f1),.int .i64 ((rd_T56 l0_1 x44_3).f0),.int .i64 t265] (by rfl) rfl rfl lA ?_
               with_reducible refine (spec_l1in.calls ((rd_T56 l0_1 x44_3).f1) ((rd_T56 l0_1 x44_3).f0) t265 true _ A35.out).mono ?_
               rintro e w' ⟨rfl,⟨nd,rfl⟩⟩;refine ⟨_,rfl,?_⟩;refine hK.out _ _ ⟨cC_ BK262 0 rfl,cC_ BK262 1 rfl,cC_ BK262 2 rfl,cC_ BK256 0 rfl,cC_ BK256 1 rfl,cC_ BK256 2 rfl,cC_ BK256 3 rfl,cC_ BK256 4 rfl⟩ (fun hHeld => ?_);clear hK K;refine norm_ (a':=?_) ?_ ?_;rotate_left
               ·show Act.put _ (some 61) _ = _
                simp only [Act.put,pS]
                rfl
               refine pure_ (i:=14) (N:=some 62) (v:=?_) (a':=?_) #[true,true,true,true,true,true,true,true,true,true,true,true,true,true,true,false,false,false,false,false,false,false] rfl rfl (any_of HT_.out (by kernel_rfl)) (fun _ _ _ h => h) (Or.inl ⟨by rfl,?_⟩) ?_ ?_;rotate_left
               ·intro w'
                go_simp
                with_reducible rfl
               rotate_left
               ·simp only [Act.put,pS]
                rfl
               refine pure_ (i:=15) (N:=some 63) (v:=?_) (a':=?_) #[true,true,true,true,true,true,true,true,true,true,true,true,true,true,true,true,false,false,false,false,false,false] rfl rfl (any_of HT_.out (by kernel_rfl)) (fun _ _ _ h => h) (Or.inl ⟨by rfl,?_⟩) ?_ ?_;rotate_left
               ·intro w'
                go_simp
                with_reducible rfl
               rotate_left
               ·simp only [Act.put,pS]
                rfl
               refine pure_ (i:=16) (N:=some 64) (v:=?_) (a':=?_) #[true,true,true,true,true,true,true,true,true,true,true,true,true,true,true,true,true,false,false,false,false,false] rfl rfl (any_of HT_.out (by kernel_rfl)) (fun _ _ _ h => h) (Or.inl ⟨by rfl,?_⟩) ?_ ?_;rotate_left
               ·intro w'
                go_simp
                with_reducible rfl
               rotate_left
               ·simp only [Act.put,pS]
                rfl
               refine pure_ (i:=17) (N:=some 65) (v:=?_) (a':=?_) #[true,true,true,true,true,true,true,true,true,true,true,true,true,true,true,true,true,true,false,false,false,false] rfl rfl (any_of HT_.out (by kernel_rfl)) (fun _ _ _ h => h) (Or.inl ⟨by rfl,?_⟩) ?_ ?_;rotate_left
               ·intro w'
                go_simp
                with_reducible rfl
               rotate_left
               ·simp only [Act.put,pS]
                rfl
               refine take_ (i:=18) (N:=some 66) (v:=?_) (a':=?_) #[true,true,true,true,true,true,true,true,true,true,true,true,true,true,true,true,true,true,true,false,false,false] rfl rfl (take_ofW HT_.out HW_.out (by kernel_rfl)) (fun _ _ _ h => h) (Or.inl ⟨by rfl,?_⟩) hHeld ?_ ?_;rotate_left
               ·rintro w' ⟨s0,s1,s2,s3,s4,s5,s6,s7⟩
                go_simp
                with_reducible rfl
               rotate_left
               ·simp only [Act.put,pS]
                rfl
               refine one_ (i:=19) (N:=some 67) #[true,true,true,true,true,true,true,true,true,true,true,true,true,true,true,true,true,true,true,true,false,false] rfl rfl (one_of HT_.out (by kernel_rfl)) (by decide) (fun K hK => ?_);refine goes_ Tryd.func34 (by kernel_rfl) rfl #[.int .i64 ((rd_T56 l0_1 x44_3).f2),.int .i64 1,.int .i64 10000] (by rfl) rfl rfl lA ?_
               with_reducible refine (spec_l1in.calls ((rd_T56 l0_1 x44_3).f2) 1 10000 false _ A37.out).mono ?_
               rintro e w' ⟨rfl,⟨nd,rfl⟩⟩;refine ⟨_,rfl,?_⟩;refine hK.out _ _ ⟨cC_ BK262 0 rfl,cC_ BK262 1 rfl,cC_ BK262 2 rfl,cC_ BK256 0 rfl,cC_ BK256 1 rfl,cC_ BK256 2 rfl,cC_ BK256 3 rfl,cC_ BK256 4 rfl⟩ (fun hHeld => ?_);clear hK K;refine norm_ (a':=?_) ?_ ?_;rotate_left
               ·show Act.put _ (some 67) _ = _
                simp only [Act.put,pS]
                rfl
               refine pure_ (i:=20) (N:=some 68) (v:=?_) (a':=?_) #[true,true,true,true,true,true,true,true,true,true,true,true,true,true,true,true,true,true,true,true,true,false] rfl rfl (any_of HT_.out (by kernel_rfl)) (fun _ _ _ h => h) (Or.inl ⟨by rfl,?_⟩) ?_ ?_;rotate_left
               ·intro w'
                go_simp
                with_reducible rfl
               rotate_left
               ·simp only [Act.put,pS]
                rfl
               refine pure_ (i:=21) (N:=some 69) (v:=?_) (a':=?_) #[true,true,true,true,true,true,true,true,true,true,true,true,true,true,true,true,true,true,true,true,true,true] rfl rfl (any_of HT_.out (by kernel_rfl)) (fun _ _ _ h => h) (Or.inl ⟨by rfl,?_⟩) ?_ ?_;rotate_left
               ·intro w'
                go_simp
                with_reducible rfl
               rotate_left
               ·simp only [Act.put,pS]
                rfl
               refine done_ (done_of HT_.out (by kernel_rfl)) ?_
               try go_wp2
               go_ret;exact ⟨eL_,bL HB⟩
             ·replace c36:=Bool.eq_false_iff.mpr c36;subst c36
              rw [if_neg (show ¬ (false = true) by decide)] at H;obtain rfl:=Option.some.inj H;have p261 : 0 ≤ (x44_3 : Int):=of_decide_eq_true (by first|(with_reducible assumption)|assumption);have q261 : x44_3 < (l0_1.length : Int):=of_decide_eq_true (by first|(with_reducible assumption)|assumption);obtain ⟨ad261,e261,hx261_0,hx261_1,hx261_2⟩:=at_T56 HR0_1.out x44_3 p261 q261;cases e261;replace hx261_0:=(HB.out.cell (World.block_lt_of_cell? w _ hx261_0)).trans hx261_0;replace hx261_1:=(HB.out.cell (World.block_lt_of_cell? w _ hx261_1)).trans hx261_1;replace hx261_2:=(HB.out.cell (World.block_lt_of_cell? w _ hx261_2)).trans hx261_2;replace p261:=eq_true p261;replace q261:=eq_true q261
              try go_wp2_with (first|((with_reducible refine gate_dst (N:=6) rfl ?_);(try (refine gate_guard (by rfl) ?_;dsimp only));refine box_event ?hg (N:=6) ?hd (cs:=#[.int .i64 0,.int .i64 0,.int .i64 0]) (t:=56) ?hr ?_;(case hd => rfl);(case hg => rfl);(case hr => first|(go_simp;done)|(go_simp;rfl));intro gb262 hg w53 hbox hb;have n0_:=Am (kB_ BK256 hb);have n1_:=Am (below_step (bL HB) hb);have n2_:=Am (hbox);have n3_:=Am ((gS_ hg HB));have n4_:=Am ((gS_ hg HB));have n5_:=Am ((gM_ hg BK256));have n6_:=Am ((gN_ hg BK256));clear BK256;clear HB;have BK256:=n0_;have HB:=n1_;have BK262:=n2_;have GW262:=n3_;have GE262:=n4_;have NB256_262:=n5_;have NB262_256:=n6_;clear n0_ n1_ n2_ n3_ n4_ n5_ n6_;clear hb hbox hg;have hnb54:=NB262_256.out;have hnc54:=NB256_262.out;have hcz55_0:=cC_ BK262 0 rfl;have hcz55_1:=cC_ BK262 1 rfl;have hcz55_2:=cC_ BK262 2 rfl;have hfz55_0:=kF BK262.out 0;have hfz55_1:=kF BK262.out 1;have hfz55_2:=kF BK262.out 2))
              have n0_ : As ((((w53.setCell ⟨gb262,0,none⟩ (.int .i64 ((rd_T56 l0_1 x44_3).f0))).setCell ⟨gb262,1,none⟩ (.int .i64 ((rd_T56 l0_1 x44_3).f1))).setCell ⟨gb262,2,none⟩ (.int .i64 ((rd_T56 l0_1 x44_3).f2))).heap[gb256]? = some (.cells #[.slice A0_0 l0_0.length c0_0,.slice (some ad261) l0_1.length c0_1,.int .i64 a0_2,.int .i64 a0_3,.int .i64 a0_4] 26 (0,0))):=⟨by (with_reducible repeat (first|refine kN ?_ _|refine kD ?_|refine kA ?_ _));refine blk_far ?_ NB256_262.out _;(with_reducible repeat (first|refine kN ?_ _|refine kD ?_|refine kA ?_ _));refine blk_far ?_ NB256_262.out _;(with_reducible repeat (first|refine kN ?_ _|refine kD ?_|refine kA ?_ _));refine blk_far ?_ NB256_262.out _;(with_reducible repeat (first|refine kN ?_ _|refine kD ?_|refine kA ?_ _));exact BK256.out⟩
              have n1_ : As ((((w53.setCell ⟨gb262,0,none⟩ (.int .i64 ((rd_T56 l0_1 x44_3).f0))).setCell ⟨gb262,1,none⟩ (.int .i64 ((rd_T56 l0_1 x44_3).f1))).setCell ⟨gb262,2,none⟩ (.int .i64 ((rd_T56 l0_1 x44_3).f2))).heap[gb262]? = some (.cells #[.int .i64 ((rd_T56 l0_1 x44_3).f0),.int .i64 ((rd_T56 l0_1 x44_3).f1),.int .i64 ((rd_T56 l0_1 x44_3).f2)] 56 (0,0))):=⟨by (with_reducible repeat (first|refine kN ?_ _|refine kD ?_|refine kA ?_ _));refine blk_put (cs:=#[.int .i64 ((rd_T56 l0_1 x44_3).f0),.int .i64 ((rd_T56 l0_1 x44_3).f1),.int .i64 0]) ?_ 2 _ rfl;(with_reducible repeat (first|refine kN ?_ _|refine kD ?_|refine kA ?_ _));refine blk_put (cs:=#[.int .i64 ((rd_T56 l0_1 x44_3).f0),.int .i64 0,.int .i64 0]) ?_ 1 _ rfl;(with_reducible repeat (first|refine kN ?_ _|refine kD ?_|refine kA ?_ _));refine blk_put (cs:=#[.int .i64 0,.int .i64 0,.int .i64 0]) ?_ 0 _ rfl;(with_reducible repeat (first|refine kN ?_ _|refine kD ?_|refine kA ?_ _));exact BK262.out⟩
              have n2_ : As (Below w.heap.size w (((w53.setCell ⟨gb262,0,none⟩ (.int .i64 ((rd_T56 l0_1 x44_3).f0))).setCell ⟨gb262,1,none⟩ (.int .i64 ((rd_T56 l0_1 x44_3).f1))).setCell ⟨gb262,2,none⟩ (.int .i64 ((rd_T56 l0_1 x44_3).f2)))):=⟨bL HB⟩
              (try clear BK256);(try clear BK262);(try clear HB);generalize (((w53.setCell ⟨gb262,0,none⟩ (.int .i64 ((rd_T56 l0_1 x44_3).f0))).setCell ⟨gb262,1,none⟩ (.int .i64 ((rd_T56 l0_1 x44_3).f1))).setCell ⟨gb262,2,none⟩ (.int .i64 ((rd_T56 l0_1 x44_3).f2))) = w56 at n0_ n1_ n2_ ⊢;have BK256:=n0_;have BK262:=n1_;have HB:=n2_;clear n0_ n1_ n2_;have n0_:=Am (kD BK256.out);have n1_:=Am (kD BK262.out);have n2_:=Am (bD HB.out);clear BK256;clear BK262;clear HB;have BK256:=n0_;have BK262:=n1_;have HB:=n2_;clear n0_ n1_ n2_;refine start_ (n:=22) (S:=fun w' => w'.cell? ⟨gb262,0,none⟩ = some (.int .i64 ((rd_T56 l0_1 x44_3).f0))∧w'.cell? ⟨gb262,1,none⟩ = some (.int .i64 ((rd_T56 l0_1 x44_3).f1))∧w'.cell? ⟨gb262,2,none⟩ = some (.int .i64 ((rd_T56 l0_1 x44_3).f2))∧w'.cell? ⟨gb256,0,none⟩ = some (.slice A0_0 l0_0.length c0_0)∧w'.cell? ⟨gb256,1,none⟩ = some (.slice (some ad261) l0_1.length c0_1)∧w'.cell? ⟨gb256,2,none⟩ = some (.int .i64 a0_2)∧w'.cell? ⟨gb256,3,none⟩ = some (.int .i64 a0_3)∧w'.cell? ⟨gb256,4,none⟩ = some (.int .i64 a0_4)) (ds:=[]) #[false,false,false,false,false,false,false,false,false,false,false,false,false,false,false,false,false,false,false,false,false,false] (by kernel_rfl) rfl rfl ⟨cC_ BK262 0 rfl,cC_ BK262 1 rfl,cC_ BK262 2 rfl,cC_ BK256 0 rfl,cC_ BK256 1 rfl,cC_ BK256 2 rfl,cC_ BK256 3 rfl,cC_ BK256 4 rfl⟩ (fun hHeld => ?_);refine with_tabW spec_ProfileOk.tab12 spec_ProfileOk.bits12 (fun HT_ HW_ => ?_);generalize w56.drew = w57 at BK256 BK262 HB hHeld ⊢;refine pure_ (i:=0) (N:=some 48) (v:=?_) (a':=?_) #[true,false,false,false,false,false,false,false,false,false,false,false,false,false,false,false,false,false,false,false,false,false] rfl rfl (any_of HT_.out (by kernel_rfl)) (fun _ _ _ h => h) (Or.inl ⟨by rfl,?_⟩) ?_ ?_;rotate_left
              ·intro w'
               go_simp
               with_reducible rfl
              rotate_left
              ·simp only [Act.put,pS]
               rfl
              refine take_ (i:=1) (N:=some 49) (v:=?_) (a':=?_) #[true,true,false,false,false,false,false,false,false,false,false,false,false,false,false,false,false,false,false,false,false,false] rfl rfl (take_ofW HT_.out HW_.out (by kernel_rfl)) (fun _ _ _ h => h) (Or.inl ⟨by rfl,?_⟩) hHeld ?_ ?_;rotate_left
              ·rintro w' ⟨s0,s1,s2,s3,s4,s5,s6,s7⟩
               go_simp
               with_reducible rfl
              rotate_left
              ·simp only [Act.put,pS]
               rfl
              refine take_ (i:=2) (N:=some 50) (v:=?_) (a':=?_) #[true,true,true,false,false,false,false,false,false,false,false,false,false,false,false,false,false,false,false,false,false,false] rfl rfl (take_ofW HT_.out HW_.out (by kernel_rfl)) (fun _ _ _ h => h) (Or.inl ⟨by rfl,?_⟩) hHeld ?_ ?_;rotate_left
              ·rintro w' ⟨s0,s1,s2,s3,s4,s5,s6,s7⟩
               go_simp
               with_reducible rfl
              rotate_left
              ·simp only [Act.put,pS]
               rfl
              refine one_ (i:=3) (N:=some 51) #[true,true,true,true,false,false,false,false,false,false,false,false,false,false,false,false,false,false,false,false,false,false] rfl rfl (one_of HT_.out (by kernel_rfl)) (by decide) (fun K hK => ?_);refine goes_ Tryd.func36 (by kernel_rfl) rfl #[.agg #[.slice A0_0 l0_0.length c0_0,.slice (some ad261) l0_1.length c0_1,.int .i64 a0_2,.int .i64 a0_3,.int .i64 a0_4]] (by rfl) rfl rfl lA ?_
              with_reducible refine (spec_l2total.calls k3 _ _ l0_0 _ _ l0_1 a0_2 a0_3 a0_4 t263 _ ?side1 ?side2 ?side3 ?side4 A31.out).mono ?_
              (case side1 => exact cL_ HR0_0 HB)
              (case side2 => exact HC0_0.out)
              (case side3 => exact cL_ HR0_1 HB)
              (case side4 => exact HC0_1.out)
              rintro e w58 ⟨rfl,hb⟩;refine ⟨_,rfl,?_⟩;have n0_:=Am (kB_ BK256 hb);have n1_:=Am (kB_ BK262 hb);have n2_:=Am (below_step (bL HB) hb);clear BK256;clear BK262;clear HB;have BK256:=n0_;have BK262:=n1_;have HB:=n2_;clear n0_ n1_ n2_;(try clear hb);(try clear hb2);(try clear hk);(try clear hi);refine hK.out _ _ ⟨cC_ BK262 0 rfl,cC_ BK262 1 rfl,cC_ BK262 2 rfl,cC_ BK256 0 rfl,cC_ BK256 1 rfl,cC_ BK256 2 rfl,cC_ BK256 3 rfl,cC_ BK256 4 rfl⟩ (fun hHeld => ?_);clear hK K;refine norm_ (a':=?_) ?_ ?_;rotate_left
              ·show Act.put _ (some 51) _ = _
               simp only [Act.put,pS]
               rfl
              refine one_ (i:=4) (N:=some 52) #[true,true,true,true,true,false,false,false,false,false,false,false,false,false,false,false,false,false,false,false,false,false] rfl rfl (one_of HT_.out (by kernel_rfl)) (by decide) (fun K hK => ?_);refine goes_ Tryd.func34 (by kernel_rfl) rfl #[.int .i64 ((rd_T56 l0_1 x44_3).f0),.int .i64 0,.int .i64 t263] (by rfl) rfl rfl lA ?_
              with_reducible refine (spec_l1in.calls ((rd_T56 l0_1 x44_3).f0) 0 t263 true _ A32.out).mono ?_
              rintro e w' ⟨rfl,⟨nd,rfl⟩⟩;refine ⟨_,rfl,?_⟩;refine hK.out _ _ ⟨cC_ BK262 0 rfl,cC_ BK262 1 rfl,cC_ BK262 2 rfl,cC_ BK256 0 rfl,cC_ BK256 1 rfl,cC_ BK256 2 rfl,cC_ BK256 3 rfl,cC_ BK256 4 rfl⟩ (fun hHeld => ?_);clear hK K;refine norm_ (a':=?_) ?_ ?_;rotate_left
              ·show Act.put _ (some 52) _ = _
               simp only [Act.put,pS]
               rfl
              refine pure_ (i:=5) (N:=some 53) (v:=?_) (a':=?_) #[true,true,true,true,true,true,false,false,false,false,false,false,false,false,false,false,false,false,false,false,false,false] rfl rfl (any_of HT_.out (by kernel_rfl)) (fun _ _ _ h => h) (Or.inl ⟨by rfl,?_⟩) ?_ ?_;rotate_left
              ·intro w'
               go_simp
               with_reducible rfl
              rotate_left
              ·simp only [Act.put,pS]
               rfl
              refine pure_ (i:=6) (N:=some 54) (v:=?_) (a':=?_) #[true,true,true,true,true,true,true,false,false,false,false,false,false,false,false,false,false,false,false,false,false,false] rfl rfl (any_of HT_.out (by kernel_rfl)) (fun _ _ _ h => h) (Or.inl ⟨by rfl,?_⟩) ?_ ?_;rotate_left
              ·intro w'
               go_simp
               with_reducible rfl
              rotate_left
              ·simp only [Act.put,pS]
               rfl
              refine pure_ (i:=7) (N:=some 55) (v:=?_) (a':=?_) #[true,true,true,true,true,true,true,true,false,false,false,false,false,false,false,false,false,false,false,false,false,false] rfl rfl (any_of HT_.out (by kernel_rfl)) (fun _ _ _ h => h) (Or.inl ⟨by rfl,?_⟩) ?_ ?_;rotate_left
              ·intro w'
               go_simp
               with_reducible rfl
              rotate_left
              ·simp only [Act.put,pS]
               rfl
              refine pure_ (i:=9) (N:=some 57) (v:=?_) (a':=?_) #[true,true,true,true,true,true,true,true,false,true,false,false,false,false,false,false,false,false,false,false,false,false] rfl rfl (any_of HT_.out (by kernel_rfl)) (fun _ _ _ h => h) (Or.inl ⟨by rfl,?_⟩) ?_ ?_;rotate_left
              ·intro w'
               go_simp
               with_reducible rfl
              rotate_left
              ·simp only [Act.put,pS]
               rfl
              refine take_ (i:=8) (N:=some 56) (v:=?_) (a':=?_) #[true,true,true,true,true,true,true,true,true,true,false,false,false,false,false,false,false,false,false,false,false,false] rfl rfl (take_ofW HT_.out HW_.out (by kernel_rfl)) (fun _ _ _ h => h) (Or.inl ⟨by rfl,?_⟩) hHeld ?_ ?_;rotate_left
              ·rintro w' ⟨s0,s1,s2,s3,s4,s5,s6,s7⟩
               go_simp
               with_reducible rfl
              rotate_left
              ·simp only [Act.put,pS]
               rfl
              refine take_ (i:=10) (N:=some 58) (v:=?_) (a':=?_) #[true,true,true,true,true,true,true,true,true,true,true,false,false,false,false,false,false,false,false,false,false,false] rfl rfl (take_ofW HT_.out HW_.out (by kernel_rfl)) (fun _ _ _ h => h) (Or.inl ⟨by rfl,?_⟩) hHeld ?_ ?_;rotate_left
              ·rintro w' ⟨s0,s1,s2,s3,s4,s5,s6,s7⟩
               go_simp
               with_reducible rfl
              rotate_left
              ·simp only [Act.put,pS]
               rfl
              refine take_ (i:=11) (N:=some 59) (v:=?_) (a':=?_) #[true,true,true,true,true,true,true,true,true,true,true,true,false,false,false,false,false,false,false,false,false,false] rfl rfl (take_ofW HT_.out HW_.out (by kernel_rfl)) (fun _ _ _ h => h) (Or.inl ⟨by rfl,?_⟩) hHeld ?_ ?_;rotate_left
              ·rintro w' ⟨s0,s1,s2,s3,s4,s5,s6,s7⟩
               go_simp
               with_reducible rfl
              rotate_left
              ·simp only [Act.put,pS]
               rfl
              refine one_ (i:=12) (N:=some 60) #[true,true,true,true,true,true,true,true,true,true,true,true,true,false,false,false,false,false,false,false,false,false] rfl rfl (one_of HT_.out (by kernel_rfl)) (by decide) (fun K hK => ?_);refine goes_ Tryd.func36 (by kernel_rfl) rfl #[.agg #[.slice A0_0 l0_0.length c0_0,.slice (some ad261) l0_1.length c0_1,.int .i64 a0_2,.int .i64 a0_3,.int .i64 a0_4]] (by rfl) rfl rfl lA ?_
              with_reducible refine (spec_l2total.calls k3 _ _ l0_0 _ _ l0_1 a0_2 a0_3 a0_4 t265 _ ?side1 ?side2 ?side3 ?side4 A34.out).mono ?_
              (case side1 => repeat (first|exact (Kd.C_below HR0_0.out (bL HB))|(with_reducible refine Kd.C_alloc ?_ _)|(with_reducible refine Kd.C_drewN ?_ _)|(with_reducible refine Kd.C_drew ?_)))
              (case side2 => exact HC0_0.out)
              (case side3 => repeat (first|exact (Kd.C_below HR0_1.out (bL HB))|(with_reducible refine Kd.C_alloc ?_ _)|(with_reducible refine Kd.C_drewN ?_ _)|(with_reducible refine Kd.C_drew ?_)))
              (case side4 => exact HC0_1.out)
              rintro e w59 ⟨rfl,hb⟩;refine ⟨_,rfl,?_⟩;have n0_:=Am (kB_ BK256 hb);have n1_:=Am (kB_ BK262 hb);have n2_:=Am (below_step (bL HB) hb);clear BK256;clear BK262;clear HB;have BK256:=n0_;have BK262:=n1_;have HB:=n2_;clear n0_ n1_ n2_;(try clear hb);(try clear hb2);(try clear hk);(try clear hi);refine hK.out _ _ ⟨cC_ BK262 0 rfl,cC_ BK262 1 rfl,cC_ BK262 2 rfl,cC_ BK256 0 rfl,cC_ BK256 1 rfl,cC_ BK256 2 rfl,cC_ BK256 3 rfl,cC_ BK256 4 rfl⟩ (fun hHeld => ?_);clear hK K;refine norm_ (a':=?_) ?_ ?_;rotate_left
              ·show Act.put _ (some 60) _ = _
               simp only [Act.put,pS]
               rfl
              refine one_ (i:=13) (N:=some 61) #[true,true,true,true,true,true,true,true,true,true,true,true,true,true,false,false,false,false,false,false,false,false] rfl rfl (one_of HT_.out (by kernel_rfl)) (by decide) (fun K hK => ?_);refine goes_ Tryd.func34 (by kernel_rfl) rfl #[.int .i64 ((rd_T56 l0_1 x44_3).f1),.int .i64 ((rd_T56 l0_1 x44_3).f0),.int .i64 t265] (by rfl) rfl rfl lA ?_
              with_reducible refine (spec_l1in.calls ((rd_T56 l0_1 x44_3).f1) ((rd_T56 l0_1 x44_3).f0) t265 false _ A35.out).mono ?_
              rintro e w' ⟨rfl,⟨nd,rfl⟩⟩;refine ⟨_,rfl,?_⟩;refine hK.out _ _ ⟨cC_ BK262 0 rfl,cC_ BK262 1 rfl,cC_ BK262 2 rfl,cC_ BK256 0 rfl,cC_ BK256 1 rfl,cC_ BK256 2 rfl,cC_ BK256 3 rfl,cC_ BK256 4 rfl⟩ (fun hHeld => ?_);clear hK K;refine norm_ (a':=?_) ?_ ?_;rotate_left
              ·show Act.put _ (some 61) _ = _
               simp only [Act.put,pS]
               rfl
              refine pure_ (i:=14) (N:=some 62) (v:=?_) (a':=?_) #[true,true,true,true,true,true,true,true,true,true,true,true,true,true,true,false,false,false,false,false,false,false] rfl rfl (any_of HT_.out (by kernel_rfl)) (fun _ _ _ h => h) (Or.inl ⟨by rfl,?_⟩) ?_ ?_;rotate_left
              ·intro w'
               go_simp
               with_reducible rfl
              rotate_left
              ·simp only [Act.put,pS]
               rfl
              refine pure_ (i:=15) (N:=some 63) (v:=?_) (a':=?_) #[true,true,true,true,true,true,true,true,true,true,true,true,true,true,true,true,false,false,false,false,false,false] rfl rfl (any_of HT_.out (by kernel_rfl)) (fun _ _ _ h => h) (Or.inl ⟨by rfl,?_⟩) ?_ ?_;rotate_left
              ·intro w'
               go_simp
               with_reducible rfl
              rotate_left
              ·simp only [Act.put,pS]
               rfl
              refine pure_ (i:=16) (N:=some 64) (v:=?_) (a':=?_) #[true,true,true,true,true,true,true,true,true,true,true,true,true,true,true,true,true,false,false,false,false,false] rfl rfl (any_of HT_.out (by kernel_rfl)) (fun _ _ _ h => h) (Or.inl ⟨by rfl,?_⟩) ?_ ?_;rotate_left
              ·intro w'
               go_simp
               with_reducible rfl
              rotate_left
              ·simp only [Act.put,pS]
               rfl
              refine pure_ (i:=17) (N:=some 65) (v:=undef) (a':=?_) #[true,true,true,true,true,true,true,true,true,true,true,true,true,true,true,true,true,true,false,false,false,false] rfl rfl (any_of HT_.out (by kernel_rfl)) (fun _ _ _ h => h) (Or.inr ⟨by rfl,rfl⟩) ?_ ?_;rotate_left
              ·simp only [Act.put,pS]
               rfl
              refine pure_ (i:=18) (N:=some 66) (v:=undef) (a':=?_) #[true,true,true,true,true,true,true,true,true,true,true,true,true,true,true,true,true,true,true,false,false,false] rfl rfl (any_of HT_.out (by kernel_rfl)) (fun _ _ _ h => h) (Or.inr ⟨by rfl,rfl⟩) ?_ ?_;rotate_left
              ·simp only [Act.put,pS]
               rfl
              refine pure_ (i:=19) (N:=some 67) (v:=undef) (a':=?_) #[true,true,true,true,true,true,true,true,true,true,true,true,true,true,true,true,true,true,true,true,false,false] rfl rfl (any_of HT_.out (by kernel_rfl)) (fun _ _ _ h => h) (Or.inr ⟨by rfl,rfl⟩) ?_ ?_;rotate_left
              ·simp only [Act.put,pS]
               rfl
              refine pure_ (i:=20) (N:=some 68) (v:=undef) (a':=?_) #[true,true,true,true,true,true,true,true,true,true,true,true,true,true,true,true,true,true,true,true,true,false] rfl rfl (any_of HT_.out (by kernel_rfl)) (fun _ _ _ h => h) (Or.inr ⟨by rfl,rfl⟩) ?_ ?_;rotate_left
              ·simp only [Act.put,pS]
               rfl
              refine pure_ (i:=21) (N:=some 69) (v:=?_) (a':=?_) #[true,true,true,true,true,true,true,true,true,true,true,true,true,true,true,true,true,true,true,true,true,true] rfl rfl (any_of HT_.out (by kernel_rfl)) (fun _ _ _ h => h) (Or.inl ⟨by rfl,?_⟩) ?_ ?_;rotate_left
              ·intro w'
               go_simp
               with_reducible rfl
              rotate_left
              ·simp only [Act.put,pS]
               rfl
              refine done_ (done_of HT_.out (by kernel_rfl)) ?_
              try go_wp2
              go_ret;exact ⟨eL_,bL HB⟩
            ·replace c33:=Bool.eq_false_iff.mpr c33;subst c33
             rw [if_neg (show ¬ (false = true) by decide)] at H;obtain rfl:=Option.some.inj H;have p261 : 0 ≤ (x44_3 : Int):=of_decide_eq_true (by first|(with_reducible assumption)|assumption);have q261 : x44_3 < (l0_1.length : Int):=of_decide_eq_true (by first|(with_reducible assumption)|assumption);obtain ⟨ad261,e261,hx261_0,hx261_1,hx261_2⟩:=at_T56 HR0_1.out x44_3 p261 q261;cases e261;replace hx261_0:=(HB.out.cell (World.block_lt_of_cell? w _ hx261_0)).trans hx261_0;replace hx261_1:=(HB.out.cell (World.block_lt_of_cell? w _ hx261_1)).trans hx261_1;replace hx261_2:=(HB.out.cell (World.block_lt_of_cell? w _ hx261_2)).trans hx261_2;replace p261:=eq_true p261;replace q261:=eq_true q261
             try go_wp2_with (first|((with_reducible refine gate_dst (N:=6) rfl ?_);(try (refine gate_guard (by rfl) ?_;dsimp only));refine box_event ?hg (N:=6) ?hd (cs:=#[.int .i64 0,.int .i64 0,.int .i64 0]) (t:=56) ?hr ?_;(case hd => rfl);(case hg => rfl);(case hr => first|(go_simp;done)|(go_simp;rfl));intro gb262 hg w60 hbox hb;have n0_:=Am (kB_ BK256 hb);have n1_:=Am (below_step (bL HB) hb);have n2_:=Am (hbox);have n3_:=Am ((gS_ hg HB));have n4_:=Am ((gS_ hg HB));have n5_:=Am ((gM_ hg BK256));have n6_:=Am ((gN_ hg BK256));clear BK256;clear HB;have BK256:=n0_;have HB:=n1_;have BK262:=n2_;have GW262:=n3_;have GE262:=n4_;have NB256_262:=n5_;have NB262_256:=n6_;clear n0_ n1_ n2_ n3_ n4_ n5_ n6_;clear hb hbox hg;have hnb61:=NB262_256.out;have hnc61:=NB256_262.out;have hcz62_0:=cC_ BK262 0 rfl;have hcz62_1:=cC_ BK262 1 rfl;have hcz62_2:=cC_ BK262 2 rfl;have hfz62_0:=kF BK262.out 0;have hfz62_1:=kF BK262.out 1;have hfz62_2:=kF BK262.out 2))
             have n0_ : As ((((w60.setCell ⟨gb262,0,none⟩ (.int .i64 ((rd_T56 l0_1 x44_3).f0))).setCell ⟨gb262,1,none⟩ (.int .i64 ((rd_T56 l0_1 x44_3).f1))).setCell ⟨gb262,2,none⟩ (.int .i64 ((rd_T56 l0_1 x44_3).f2))).heap[gb256]? = some (.cells #[.slice A0_0 l0_0.length c0_0,.slice (some ad261) l0_1.length c0_1,.int .i64 a0_2,.int .i64 a0_3,.int .i64 a0_4] 26 (0,0))):=⟨by (with_reducible repeat (first|refine kN ?_ _|refine kD ?_|refine kA ?_ _));refine blk_far ?_ NB256_262.out _;(with_reducible repeat (first|refine kN ?_ _|refine kD ?_|refine kA ?_ _));refine blk_far ?_ NB256_262.out _;(with_reducible repeat (first|refine kN ?_ _|refine kD ?_|refine kA ?_ _));refine blk_far ?_ NB256_262.out _;(with_reducible repeat (first|refine kN ?_ _|refine kD ?_|refine kA ?_ _));exact BK256.out⟩
             have n1_ : As ((((w60.setCell ⟨gb262,0,none⟩ (.int .i64 ((rd_T56 l0_1 x44_3).f0))).setCell ⟨gb262,1,none⟩ (.int .i64 ((rd_T56 l0_1 x44_3).f1))).setCell ⟨gb262,2,none⟩ (.int .i64 ((rd_T56 l0_1 x44_3).f2))).heap[gb262]? = some (.cells #[.int .i64 ((rd_T56 l0_1 x44_3).f0),.int .i64 ((rd_T56 l0_1 x44_3).f1),.int .i64 ((rd_T56 l0_1 x44_3).f2)] 56 (0,0))):=⟨by (with_reducible repeat (first|refine kN ?_ _|refine kD ?_|refine kA ?_ _));refine blk_put (cs:=#[.int .i64 ((rd_T56 l0_1 x44_3).f0),.int .i64 ((rd_T56 l0_1 x44_3).f1),.int .i64 0]) ?_ 2 _ rfl;(with_reducible repeat (first|refine kN ?_ _|refine kD ?_|refine kA ?_ _));refine blk_put (cs:=#[.int .i64 ((rd_T56 l0_1 x44_3).f0),.int .i64 0,.int .i64 0]) ?_ 1 _ rfl;(with_reducible repeat (first|refine kN ?_ _|refine kD ?_|refine kA ?_ _));refine blk_put (cs:=#[.int .i64 0,.int .i64 0,.int .i64 0]) ?_ 0 _ rfl;(with_reducible repeat (first|refine kN ?_ _|refine kD ?_|refine kA ?_ _));exact BK262.out⟩
             have n2_ : As (Below w.heap.size w (((w60.setCell ⟨gb262,0,none⟩ (.int .i64 ((rd_T56 l0_1 x44_3).f0))).setCell ⟨gb262,1,none⟩ (.int .i64 ((rd_T56 l0_1 x44_3).f1))).setCell ⟨gb262,2,none⟩ (.int .i64 ((rd_T56 l0_1 x44_3).f2)))):=⟨bL HB⟩
             (try clear BK256);(try clear BK262);(try clear HB);generalize (((w60.setCell ⟨gb262,0,none⟩ (.int .i64 ((rd_T56 l0_1 x44_3).f0))).setCell ⟨gb262,1,none⟩ (.int .i64 ((rd_T56 l0_1 x44_3).f1))).setCell ⟨gb262,2,none⟩ (.int .i64 ((rd_T56 l0_1 x44_3).f2))) = w63 at n0_ n1_ n2_ ⊢;have BK256:=n0_;have BK262:=n1_;have HB:=n2_;clear n0_ n1_ n2_;have n0_:=Am (kD BK256.out);have n1_:=Am (kD BK262.out);have n2_:=Am (bD HB.out);clear BK256;clear BK262;clear HB;have BK256:=n0_;have BK262:=n1_;have HB:=n2_;clear n0_ n1_ n2_;refine start_ (n:=22) (S:=fun w' => w'.cell? ⟨gb262,0,none⟩ = some (.int .i64 ((rd_T56 l0_1 x44_3).f0))∧w'.cell? ⟨gb262,1,none⟩ = some (.int .i64 ((rd_T56 l0_1 x44_3).f1))∧w'.cell? ⟨gb262,2,none⟩ = some (.int .i64 ((rd_T56 l0_1 x44_3).f2))∧w'.cell? ⟨gb256,0,none⟩ = some (.slice A0_0 l0_0.length c0_0)∧w'.cell? ⟨gb256,1,none⟩ = some (.slice (some ad261) l0_1.length c0_1)∧w'.cell? ⟨gb256,2,none⟩ = some (.int .i64 a0_2)∧w'.cell? ⟨gb256,3,none⟩ = some (.int .i64 a0_3)∧w'.cell? ⟨gb256,4,none⟩ = some (.int .i64 a0_4)) (ds:=[]) #[false,false,false,false,false,false,false,false,false,false,false,false,false,false,false,false,false,false,false,false,false,false] (by kernel_rfl) rfl rfl ⟨cC_ BK262 0 rfl,cC_ BK262 1 rfl,cC_ BK262 2 rfl,cC_ BK256 0 rfl,cC_ BK256 1 rfl,cC_ BK256 2 rfl,cC_ BK256 3 rfl,cC_ BK256 4 rfl⟩ (fun hHeld => ?_);refine with_tabW spec_ProfileOk.tab12 spec_ProfileOk.bits12 (fun HT_ HW_ => ?_);generalize w63.drew = w64 at BK256 BK262 HB hHeld ⊢;refine pure_ (i:=0) (N:=some 48) (v:=?_) (a':=?_) #[true,false,false,false,false,false,false,false,false,false,false,false,false,false,false,false,false,false,false,false,false,false] rfl rfl (any_of HT_.out (by kernel_rfl)) (fun _ _ _ h => h) (Or.inl ⟨by rfl,?_⟩) ?_ ?_;rotate_left
             ·intro w'
              go_simp
              with_reducible rfl
             rotate_left
             ·simp only [Act.put,pS]
              rfl
             refine take_ (i:=1) (N:=some 49) (v:=?_) (a':=?_) #[true,true,false,false,false,false,false,false,false,false,false,false,false,false,false,false,false,false,false,false,false,false] rfl rfl (take_ofW HT_.out HW_.out (by kernel_rfl)) (fun _ _ _ h => h) (Or.inl ⟨by rfl,?_⟩) hHeld ?_ ?_;rotate_left
             ·rintro w' ⟨s0,s1,s2,s3,s4,s5,s6,s7⟩
              go_simp
              with_reducible rfl
             rotate_left
             ·simp only [Act.put,pS]
              rfl
             refine take_ (i:=2) (N:=some 50) (v:=?_) (a':=?_) #[true,true,true,false,false,false,false,false,false,false,false,false,false,false,false,false,false,false,false,false,false,false] rfl rfl (take_ofW HT_.out HW_.out (by kernel_rfl)) (fun _ _ _ h => h) (Or.inl ⟨by rfl,?_⟩) hHeld ?_ ?_;rotate_left
             ·rintro w' ⟨s0,s1,s2,s3,s4,s5,s6,s7⟩
              go_simp
              with_reducible rfl
             rotate_left
             ·simp only [Act.put,pS]
              rfl
             refine one_ (i:=3) (N:=some 51) #[true,true,true,true,false,false,false,false,false,false,false,false,false,false,false,false,false,false,false,false,false,false] rfl rfl (one_of HT_.out (by kernel_rfl)) (by decide) (fun K hK => ?_);refine goes_ Tryd.func36 (by kernel_rfl) rfl #[.agg #[.slice A0_0 l0_0.length c0_0,.slice (some ad261) l0_1.length c0_1,.int .i64 a0_2,.int .i64 a0_3,.int .i64 a0_4]] (by rfl) rfl rfl lA ?_
             with_reducible refine (spec_l2total.calls k3 _ _ l0_0 _ _ l0_1 a0_2 a0_3 a0_4 t263 _ ?side1 ?side2 ?side3 ?side4 A31.out).mono ?_
             (case side1 => exact cL_ HR0_0 HB)
             (case side2 => exact HC0_0.out)
             (case side3 => exact cL_ HR0_1 HB)
             (case side4 => exact HC0_1.out)
             rintro e w65 ⟨rfl,hb⟩;refine ⟨_,rfl,?_⟩;have n0_:=Am (kB_ BK256 hb);have n1_:=Am (kB_ BK262 hb);have n2_:=Am (below_step (bL HB) hb);clear BK256;clear BK262;clear HB;have BK256:=n0_;have BK262:=n1_;have HB:=n2_;clear n0_ n1_ n2_;(try clear hb);(try clear hb2);(try clear hk);(try clear hi);refine hK.out _ _ ⟨cC_ BK262 0 rfl,cC_ BK262 1 rfl,cC_ BK262 2 rfl,cC_ BK256 0 rfl,cC_ BK256 1 rfl,cC_ BK256 2 rfl,cC_ BK256 3 rfl,cC_ BK256 4 rfl⟩ (fun hHeld => ?_);clear hK K;refine norm_ (a':=?_) ?_ ?_;rotate_left
             ·show Act.put _ (some 51) _ = _
              simp only [Act.put,pS]
              rfl
             refine one_ (i:=4) (N:=some 52) #[true,true,true,true,true,false,false,false,false,false,false,false,false,false,false,false,false,false,false,false,false,false] rfl rfl (one_of HT_.out (by kernel_rfl)) (by decide) (fun K hK => ?_);refine goes_ Tryd.func34 (by kernel_rfl) rfl #[.int .i64 ((rd_T56 l0_1 x44_3).f0),.int .i64 0,.int .i64 t263] (by rfl) rfl rfl lA ?_
             with_reducible refine (spec_l1in.calls ((rd_T56 l0_1 x44_3).f0) 0 t263 false _ A32.out).mono ?_
             rintro e w' ⟨rfl,⟨nd,rfl⟩⟩;refine ⟨_,rfl,?_⟩;refine hK.out _ _ ⟨cC_ BK262 0 rfl,cC_ BK262 1 rfl,cC_ BK262 2 rfl,cC_ BK256 0 rfl,cC_ BK256 1 rfl,cC_ BK256 2 rfl,cC_ BK256 3 rfl,cC_ BK256 4 rfl⟩ (fun hHeld => ?_);clear hK K;refine norm_ (a':=?_) ?_ ?_;rotate_left
             ·show Act.put _ (some 52) _ = _
              simp only [Act.put,pS]
              rfl
             refine pure_ (i:=5) (N:=some 53) (v:=?_) (a':=?_) #[true,true,true,true,true,true,false,false,false,false,false,false,false,false,false,false,false,false,false,false,false,false] rfl rfl (any_of HT_.out (by kernel_rfl)) (fun _ _ _ h => h) (Or.inl ⟨by rfl,?_⟩) ?_ ?_;rotate_left
             ·intro w'
              go_simp
              with_reducible rfl
             rotate_left
             ·simp only [Act.put,pS]
              rfl
             refine pure_ (i:=6) (N:=some 54) (v:=?_) (a':=?_) #[true,true,true,true,true,true,true,false,false,false,false,false,false,false,false,false,false,false,false,false,false,false] rfl rfl (any_of HT_.out (by kernel_rfl)) (fun _ _ _ h => h) (Or.inl ⟨by rfl,?_⟩) ?_ ?_;rotate_left
             ·intro w'
              go_simp
              with_reducible rfl
             rotate_left
             ·simp only [Act.put,pS]
              rfl
             refine pure_ (i:=7) (N:=some 55) (v:=undef) (a':=?_) #[true,true,true,true,true,true,true,true,false,false,false,false,false,false,false,false,false,false,false,false,false,false] rfl rfl (any_of HT_.out (by kernel_rfl)) (fun _ _ _ h => h) (Or.inr ⟨by rfl,rfl⟩) ?_ ?_;rotate_left
             ·simp only [Act.put,pS]
              rfl
             refine pure_ (i:=8) (N:=some 56) (v:=undef) (a':=?_) #[true,true,true,true,true,true,true,true,true,false,false,false,false,false,false,false,false,false,false,false,false,false] rfl rfl (any_of HT_.out (by kernel_rfl)) (fun _ _ _ h => h) (Or.inr ⟨by rfl,rfl⟩) ?_ ?_;rotate_left
             ·simp only [Act.put,pS]
              rfl
             refine pure_ (i:=9) (N:=some 57) (v:=undef) (a':=?_) #[true,true,true,true,true,true,true,true,true,true,false,false,false,false,false,false,false,false,false,false,false,false] rfl rfl (any_of HT_.out (by kernel_rfl)) (fun _ _ _ h => h) (Or.inr ⟨by rfl,rfl⟩) ?_ ?_;rotate_left
             ·simp only [Act.put,pS]
              rfl
             refine pure_ (i:=10) (N:=some 58) (v:=undef) (a':=?_) #[true,true,true,true,true,true,true,true,true,true,true,false,false,false,false,false,false,false,false,false,false,false] rfl rfl (any_of HT_.out (by kernel_rfl)) (fun _ _ _ h => h) (Or.inr ⟨by rfl,rfl⟩) ?_ ?_;rotate_left
             ·simp only [Act.put,pS]
              rfl
             refine pure_ (i:=11) (N:=some 59) (v:=undef) (a':=?_) #[true,true,true,true,true,true,true,true,true,true,true,true,false,false,false,false,false,false,false,false,false,false] rfl rfl (any_of HT_.out (by kernel_rfl)) (fun _ _ _ h => h) (Or.inr ⟨by rfl,rfl⟩) ?_ ?_;rotate_left
             ·simp only [Act.put,pS]
              rfl
             refine pure_ (i:=12) (N:=some 60) (v:=undef) (a':=?_) #[true,true,true,true,true,true,true,true,true,true,true,true,true,false,false,false,false,false,false,false,false,false] rfl rfl (any_of HT_.out (by kernel_rfl)) (fun _ _ _ h => h) (Or.inr ⟨by rfl,rfl⟩) ?_ ?_;rotate_left
             ·simp only [Act.put,pS]
              rfl
             refine pure_ (i:=13) (N:=some 61) (v:=undef) (a':=?_) #[true,true,true,true,true,true,true,true,true,true,true,true,true,true,false,false,false,false,false,false,false,false] rfl rfl (any_of HT_.out (by kernel_rfl)) (fun _ _ _ h => h) (Or.inr ⟨by rfl,rfl⟩) ?_ ?_;rotate_left
             ·simp only [Act.put,pS]
              rfl
             refine pure_ (i:=14) (N:=some 62) (v:=undef) (a':=?_) #[true,true,true,true,true,true,true,true,true,true,true,true,true,true,true,false,false,false,false,false,false,false] rfl rfl (any_of HT_.out (by kernel_rfl)) (fun _ _ _ h => h) (Or.inr ⟨by rfl,rfl⟩) ?_ ?_;rotate_left
             ·simp only [Act.put,pS]
              rfl
             refine pure_ (i:=15) (N:=some 63) (v:=?_) (a':=?_) #[true,true,true,true,true,true,true,true,true,true,true,true,true,true,true,true,false,false,false,false,false,false] rfl rfl (any_of HT_.out (by kernel_rfl)) (fun _ _ _ h => h) (Or.inl ⟨by rfl,?_⟩) ?_ ?_;rotate_left
             ·intro w'
              go_simp
              with_reducible rfl
             rotate_left
             ·simp only [Act.put,pS]
              rfl
             refine pure_ (i:=16) (N:=some 64) (v:=?_) (a':=?_) #[true,true,true,true,true,true,true,true,true,true,true,true,true,true,true,true,true,false,false,false,false,false] rfl rfl (any_of HT_.out (by kernel_rfl)) (fun _ _ _ h => h) (Or.inl ⟨by rfl,?_⟩) ?_ ?_;rotate_left
             ·intro w'
              go_simp
              with_reducible rfl
             rotate_left
             ·simp only [Act.put,pS]
              rfl
             refine pure_ (i:=17) (N:=some 65) (v:=undef) (a':=?_) #[true,true,true,true,true,true,true,true,true,true,true,true,true,true,true,true,true,true,false,false,false,false] rfl rfl (any_of HT_.out (by kernel_rfl)) (fun _ _ _ h => h) (Or.inr ⟨by rfl,rfl⟩) ?_ ?_;rotate_left
             ·simp only [Act.put,pS]
              rfl
             refine pure_ (i:=18) (N:=some 66) (v:=undef) (a':=?_) #[true,true,true,true,true,true,true,true,true,true,true,true,true,true,true,true,true,true,true,false,false,false] rfl rfl (any_of HT_.out (by kernel_rfl)) (fun _ _ _ h => h) (Or.inr ⟨by rfl,rfl⟩) ?_ ?_;rotate_left
             ·simp only [Act.put,pS]
              rfl
             refine pure_ (i:=19) (N:=some 67) (v:=undef) (a':=?_) #[true,true,true,true,true,true,true,true,true,true,true,true,true,true,true,true,true,true,true,true,false,false] rfl rfl (any_of HT_.out (by kernel_rfl)) (fun _ _ _ h => h) (Or.inr ⟨by rfl,rfl⟩) ?_ ?_;rotate_left
             ·simp only [Act.put,pS]
              rfl
             refine pure_ (i:=20) (N:=some 68) (v:=undef) (a':=?_) #[true,true,true,true,true,true,true,true,true,true,true,true,true,true,true,true,true,true,true,true,true,false] rfl rfl (any_of HT_.out (by kernel_rfl)) (fun _ _ _ h => h) (Or.inr ⟨by rfl,rfl⟩) ?_ ?_;rotate_left
             ·simp only [Act.put,pS]
              rfl
             refine pure_ (i:=21) (N:=some 69) (v:=?_) (a':=?_) #[true,true,true,true,true,true,true,true,true,true,true,true,true,true,true,true,true,true,true,true,true,true] rfl rfl (any_of HT_.out (by kernel_rfl)) (fun _ _ _ h => h) (Or.inl ⟨by rfl,?_⟩) ?_ ?_;rotate_left
             ·intro w'
              go_simp
              with_reducible rfl
             rotate_left
             ·simp only [Act.put,pS]
              rfl
             refine done_ (done_of HT_.out (by kernel_rfl)) ?_
             try go_wp2
             go_ret;exact ⟨eL_,bL HB⟩
           ·rw [if_neg c30] at H;exact absurd H (by simp)
          ·rw [if_neg c29] at H;exact absurd H (by simp)
         ·rw [if_neg c28] at H;have c28b0 : decide (x44_3 < (l0_1.length : Int)) = false:=decide_eq_false c28;clear c28;replace H:=Option.bind_eq_some_iff.mp H;obtain ⟨t268,A660,H⟩:=H;have A66:=Am A660;clear A660
          by_cases c67 : t268 = true
          ·subst c67
           rw [if_pos rfl] at H;replace H:=Option.bind_eq_some_iff.mp H;obtain ⟨t269,A680,H⟩:=H;have A68:=Am A680;clear A680;replace H:=Option.bind_eq_some_iff.mp H;obtain ⟨t270,A690,H⟩:=H;have A69:=Am A690;clear A690
           by_cases c70 : t270 = true
           ·subst c70
            rw [if_pos rfl] at H;replace H:=Option.bind_eq_some_iff.mp H;obtain ⟨t271,A710,H⟩:=H;have A71:=Am A710;clear A710
            by_cases c72 : t271 = true
            ·subst c72
             rw [if_pos rfl] at H;obtain rfl:=Option.some.inj H;have hcz73_0:=cC_ BK256 0 rfl;have hcz73_1:=cC_ BK256 1 rfl;have hcz73_2:=cC_ BK256 2 rfl;have hcz73_3:=cC_ BK256 3 rfl;have hcz73_4:=cC_ BK256 4 rfl;have hfz73_0:=kF BK256.out 0;have hfz73_1:=kF BK256.out 1;have hfz73_2:=kF BK256.out 2;have hfz73_3:=kF BK256.out 3;have hfz73_4:=kF BK256.out 4
             try go_wp2_with (first|((with_reducible refine gate_callee (f:=34) rfl ?_);refine goesL_ (some 73) rfl rfl Tryd.func34 (by kernel_rfl) rfl #[.int .i64 a0_2,.int .i64 0,.int .i64 100000000] rfl lA ?_;(with_reducible refine (spec_l1in.calls a0_2 0 100000000 true _ A66.out).mono ?_);rintro e w' ⟨rfl,⟨nd,rfl⟩⟩;refine ⟨_,rfl,?_⟩))
             (try (rw [drewN_self wr];generalize hq_ : World.drewN wr _ = wr;have n0_ : As (wr.heap[gb256]? = some (.cells #[.slice A0_0 l0_0.length c0_0,.slice A0_1 l0_1.length c0_1,.int .i64 a0_2,.int .i64 a0_3,.int .i64 a0_4] 26 (0,0))):=⟨by rw [← hq_];exact (kL BK256)⟩;have n1_ : As (Below w.heap.size w wr):=⟨by rw [← hq_];exact (bL HB)⟩;clear BK256 HB hq_;have BK256:=n0_;have HB:=n1_;clear n0_ n1_))
             have n0_:=Am (kD BK256.out);have n1_:=Am (bD HB.out);clear BK256;clear HB;have BK256:=n0_;have HB:=n1_;clear n0_ n1_;refine start_ (n:=6) (S:=fun w' => w'.cell? ⟨gb256,0,none⟩ = some (.slice A0_0 l0_0.length c0_0)∧w'.cell? ⟨gb256,1,none⟩ = some (.slice A0_1 l0_1.length c0_1)∧w'.cell? ⟨gb256,2,none⟩ = some (.int .i64 a0_2)∧w'.cell? ⟨gb256,3,none⟩ = some (.int .i64 a0_3)∧w'.cell? ⟨gb256,4,none⟩ = some (.int .i64 a0_4)) (ds:=[]) #[false,false,false,false,false,false] (by kernel_rfl) rfl rfl ⟨cC_ BK256 0 rfl,cC_ BK256 1 rfl,cC_ BK256 2 rfl,cC_ BK256 3 rfl,cC_ BK256 4 rfl⟩ (fun hHeld => ?_);generalize wr.drew = w74 at BK256 HB hHeld ⊢;refine pure_ (i:=0) (N:=some 75) (v:=?_) (a':=?_) #[true,false,false,false,false,false] rfl rfl (by kernel_rfl) (fun _ _ _ h => h) (Or.inl ⟨by rfl,?_⟩) ?_ ?_;rotate_left
             ·intro w'
              go_simp
              with_reducible rfl
             rotate_left
             ·simp only [Act.put,pS]
              rfl
             refine take_ (i:=1) (N:=some 76) (v:=?_) (a':=?_) #[true,true,false,false,false,false] rfl rfl (by kernel_rfl) (fun _ _ _ h => h) (Or.inl ⟨by rfl,?_⟩) hHeld ?_ ?_;rotate_left
             ·rintro w' ⟨s0,s1,s2,s3,s4⟩
              go_simp
              with_reducible rfl
             rotate_left
             ·simp only [Act.put,pS]
              rfl
             refine take_ (i:=2) (N:=some 77) (v:=?_) (a':=?_) #[true,true,true,false,false,false] rfl rfl (by kernel_rfl) (fun _ _ _ h => h) (Or.inl ⟨by rfl,?_⟩) hHeld ?_ ?_;rotate_left
             ·rintro w' ⟨s0,s1,s2,s3,s4⟩
              go_simp
              with_reducible rfl
             rotate_left
             ·simp only [Act.put,pS]
              rfl
             refine one_ (i:=3) (N:=some 78) #[true,true,true,true,false,false] rfl rfl (by kernel_rfl) (by decide) (fun K hK => ?_);refine goes_ Tryd.func36 (by kernel_rfl) rfl #[.agg #[.slice A0_0 l0_0.length c0_0,.slice A0_1 l0_1.length c0_1,.int .i64 a0_2,.int .i64 a0_3,.int .i64 a0_4]] (by rfl) rfl rfl lA ?_
             with_reducible refine (spec_l2total.calls k3 _ _ l0_0 _ _ l0_1 a0_2 a0_3 a0_4 t269 _ ?side1 ?side2 ?side3 ?side4 A68.out).mono ?_
             (case side1 => exact cL_ HR0_0 HB)
             (case side2 => exact HC0_0.out)
             (case side3 => exact cL_ HR0_1 HB)
             (case side4 => exact HC0_1.out)
             rintro e w75 ⟨rfl,hb⟩;refine ⟨_,rfl,?_⟩;have n0_:=Am (kB_ BK256 hb);have n1_:=Am (below_step (bL HB) hb);clear BK256;clear HB;have BK256:=n0_;have HB:=n1_;clear n0_ n1_;(try clear hb);(try clear hb2);(try clear hk);(try clear hi);refine hK.out _ _ ⟨cC_ BK256 0 rfl,cC_ BK256 1 rfl,cC_ BK256 2 rfl,cC_ BK256 3 rfl,cC_ BK256 4 rfl⟩ (fun hHeld => ?_);clear hK K;refine norm_ (a':=?_) ?_ ?_;rotate_left
             ·show Act.put _ (some 78) _ = _
              simp only [Act.put,pS]
              rfl
             refine one_ (i:=4) (N:=some 79) #[true,true,true,true,true,false] rfl rfl (by kernel_rfl) (by decide) (fun K hK => ?_);refine goes_ Tryd.func34 (by kernel_rfl) rfl #[.int .i64 a0_3,.int .i64 0,.int .i64 t269] (by rfl) rfl rfl lA ?_
             with_reducible refine (spec_l1in.calls a0_3 0 t269 true _ A69.out).mono ?_
             rintro e w' ⟨rfl,⟨nd,rfl⟩⟩;refine ⟨_,rfl,?_⟩;refine hK.out _ _ ⟨cC_ BK256 0 rfl,cC_ BK256 1 rfl,cC_ BK256 2 rfl,cC_ BK256 3 rfl,cC_ BK256 4 rfl⟩ (fun hHeld => ?_);clear hK K;refine norm_ (a':=?_) ?_ ?_;rotate_left
             ·show Act.put _ (some 79) _ = _
              simp only [Act.put,pS]
              rfl
             refine pure_ (i:=5) (N:=some 80) (v:=?_) (a':=?_) #[true,true,true,true,true,true] rfl rfl (by kernel_rfl) (fun _ _ _ h => h) (Or.inl ⟨by rfl,?_⟩) ?_ ?_;rotate_left
             ·intro w'
              go_simp
              with_reducible rfl
             rotate_left
             ·simp only [Act.put,pS]
              rfl
             refine done_ (by kernel_rfl) ?_;have hcz76_0:=cC_ BK256 0 rfl;have hcz76_1:=cC_ BK256 1 rfl;have hcz76_2:=cC_ BK256 2 rfl;have hcz76_3:=cC_ BK256 3 rfl;have hcz76_4:=cC_ BK256 4 rfl;have hfz76_0:=kF BK256.out 0;have hfz76_1:=kF BK256.out 1;have hfz76_2:=kF BK256.out 2;have hfz76_3:=kF BK256.out 3;have hfz76_4:=kF BK256.out 4
             try go_wp2_with (first|((with_reducible refine gate_callee (f:=34) rfl ?_);refine goesL_ (some 83) rfl rfl Tryd.func34 (by kernel_rfl) rfl #[.int .i64 a0_4,.int .i64 0,.int .i64 20] rfl lA ?_;(with_reducible refine (spec_l1in.calls a0_4 0 20 true _ A71.out).mono ?_);rintro e w' ⟨rfl,⟨nd,rfl⟩⟩;refine ⟨_,rfl,?_⟩))
             go_ret;exact ⟨eL_,bL HB⟩
            ·replace c72:=Bool.eq_false_iff.mpr c72;subst c72
             rw [if_neg (show ¬ (false = true) by decide)] at H;obtain rfl:=Option.some.inj H;have hcz77_0:=cC_ BK256 0 rfl;have hcz77_1:=cC_ BK256 1 rfl;have hcz77_2:=cC_ BK256 2 rfl;have hcz77_3:=cC_ BK256 3 rfl;have hcz77_4:=cC_ BK256 4 rfl;have hfz77_0:=kF BK256.out 0;have hfz77_1:=kF BK256.out 1;have hfz77_2:=kF BK256.out 2;have hfz77_3:=kF BK256.out 3;have hfz77_4:=kF BK256.out 4
             try go_wp2_with (first|((with_reducible refine gate_callee (f:=34) rfl ?_);refine goesL_ (some 73) rfl rfl Tryd.func34 (by kernel_rfl) rfl #[.int .i64 a0_2,.int .i64 0,.int .i64 100000000] rfl lA ?_;(with_reducible refine (spec_l1in.calls a0_2 0 100000000 true _ A66.out).mono ?_);rintro e w' ⟨rfl,⟨nd,rfl⟩⟩;refine ⟨_,rfl,?_⟩))
             (try (rw [drewN_self wr];generalize hq_ : World.drewN wr _ = wr;have n0_ : As (wr.heap[gb256]? = some (.cells #[.slice A0_0 l0_0.length c0_0,.slice A0_1 l0_1.length c0_1,.int .i64 a0_2,.int .i64 a0_3,.int .i64 a0_4] 26 (0,0))):=⟨by rw [← hq_];exact (kL BK256)⟩;have n1_ : As (Below w.heap.size w wr):=⟨by rw [← hq_];exact (bL HB)⟩;clear BK256 HB hq_;have BK256:=n0_;have HB:=n1_;clear n0_ n1_))
             have n0_:=Am (kD BK256.out);have n1_:=Am (bD HB.out);clear BK256;clear HB;have BK256:=n0_;have HB:=n1_;clear n0_ n1_;refine start_ (n:=6) (S:=fun w' => w'.cell? ⟨gb256,0,none⟩ = some (.slice A0_0 l0_0.length c0_0)∧w'.cell? ⟨gb256,1,none⟩ = some (.slice A0_1 l0_1.length c0_1)∧w'.cell? ⟨gb256,2,none⟩ = some (.int .i64 a0_2)∧w'.cell? ⟨gb256,3,none⟩ = some (.int .i64 a0_3)∧w'.cell? ⟨gb256,4,none⟩ = some (.int .i64 a0_4)) (ds:=[]) #[false,false,false,false,false,false] (by kernel_rfl) rfl rfl ⟨cC_ BK256 0 rfl,cC_ BK256 1 rfl,cC_ BK256 2 rfl,cC_ BK256 3 rfl,cC_ BK256 4 rfl⟩ (fun hHeld => ?_);generalize wr.drew = w78 at BK256 HB hHeld ⊢;refine pure_ (i:=0) (N:=some 75) (v:=?_) (a':=?_) #[true,false,false,false,false,false] rfl rfl (by kernel_rfl) (fun _ _ _ h => h) (Or.inl ⟨by rfl,?_⟩) ?_ ?_;rotate_left
             ·intro w'
              go_simp
              with_reducible rfl
             rotate_left
             ·simp only [Act.put,pS]
              rfl
             refine take_ (i:=1) (N:=some 76) (v:=?_) (a':=?_) #[true,true,false,false,false,false] rfl rfl (by kernel_rfl) (fun _ _ _ h => h) (Or.inl ⟨by rfl,?_⟩) hHeld ?_ ?_;rotate_left
             ·rintro w' ⟨s0,s1,s2,s3,s4⟩
              go_simp
              with_reducible rfl
             rotate_left
             ·simp only [Act.put,pS]
              rfl
             refine take_ (i:=2) (N:=some 77) (v:=?_) (a':=?_) #[true,true,true,false,false,false] rfl rfl (by kernel_rfl) (fun _ _ _ h => h) (Or.inl ⟨by rfl,?_⟩) hHeld ?_ ?_;rotate_left
             ·rintro w' ⟨s0,s1,s2,s3,s4⟩
              go_simp
              with_reducible rfl
             rotate_left
             ·simp only [Act.put,pS]
              rfl
             refine one_ (i:=3) (N:=some 78) #[true,true,true,true,false,false] rfl rfl (by kernel_rfl) (by decide) (fun K hK => ?_);refine goes_ Tryd.func36 (by kernel_rfl) rfl #[.agg #[.slice A0_0 l0_0.length c0_0,.slice A0_1 l0_1.length c0_1,.int .i64 a0_2,.int .i64 a0_3,.int .i64 a0_4]] (by rfl) rfl rfl lA ?_
             with_reducible refine (spec_l2total.calls k3 _ _ l0_0 _ _ l0_1 a0_2 a0_3 a0_4 t269 _ ?side1 ?side2 ?side3 ?side4 A68.out).mono ?_
             (case side1 => exact cL_ HR0_0 HB)
             (case side2 => exact HC0_0.out)
             (case side3 => exact cL_ HR0_1 HB)
             (case side4 => exact HC0_1.out)
             rintro e w79 ⟨rfl,hb⟩;refine ⟨_,rfl,?_⟩;have n0_:=Am (kB_ BK256 hb);have n1_:=Am (below_step (bL HB) hb);clear BK256;clear HB;have BK256:=n0_;have HB:=n1_;clear n0_ n1_;(try clear hb);(try clear hb2);(try clear hk);(try clear hi);refine hK.out _ _ ⟨cC_ BK256 0 rfl,cC_ BK256 1 rfl,cC_ BK256 2 rfl,cC_ BK256 3 rfl,cC_ BK256 4 rfl⟩ (fun hHeld => ?_);clear hK K;refine norm_ (a':=?_) ?_ ?_;rotate_left
             ·show Act.put _ (some 78) _ = _
              simp only [Act.put,pS]
              rfl
             refine one_ (i:=4) (N:=some 79) #[true,true,true,true,true,false] rfl rfl (by kernel_rfl) (by decide) (fun K hK => ?_);refine goes_ Tryd.func34 (by kernel_rfl) rfl #[.int .i64 a0_3,.int .i64 0,.int .i64 t269] (by rfl) rfl rfl lA ?_
             with_reducible refine (spec_l1in.calls a0_3 0 t269 true _ A69.out).mono ?_
             rintro e w' ⟨rfl,⟨nd,rfl⟩⟩;refine ⟨_,rfl,?_⟩;refine hK.out _ _ ⟨cC_ BK256 0 rfl,cC_ BK256 1 rfl,cC_ BK256 2 rfl,cC_ BK256 3 rfl,cC_ BK256 4 rfl⟩ (fun hHeld => ?_);clear hK K;refine norm_ (a':=?_) ?_ ?_;rotate_left
             ·show Act.put _ (some 79) _ = _
              simp only [Act.put,pS]
              rfl
             refine pure_ (i:=5) (N:=some 80) (v:=?_) (a':=?_) #[true,true,true,true,true,true] rfl rfl (by kernel_rfl) (fun _ _ _ h => h) (Or.inl ⟨by rfl,?_⟩) ?_ ?_;rotate_left
             ·intro w'
              go_simp
              with_reducible rfl
             rotate_left
             ·simp only [Act.put,pS]
              rfl
             refine done_ (by kernel_rfl) ?_;have hcz80_0:=cC_ BK256 0 rfl;have hcz80_1:=cC_ BK256 1 rfl;have hcz80_2:=cC_ BK256 2 rfl;have hcz80_3:=cC_ BK256 3 rfl;have hcz80_4:=cC_ BK256 4 rfl;have hfz80_0:=kF BK256.out 0;have hfz80_1:=kF BK256.out 1;have hfz80_2:=kF BK256.out 2;have hfz80_3:=kF BK256.out 3;have hfz80_4:=kF BK256.out 4
             try go_wp2_with (first|((with_reducible refine gate_callee (f:=34) rfl ?_);refine goesL_ (some 83) rfl rfl Tryd.func34 (by kernel_rfl) rfl #[.int .i64 a0_4,.int .i64 0,.int .i64 20] rfl lA ?_;(with_reducible refine (spec_l1in.calls a0_4 0 20 false _ A71.out).mono ?_);rintro e w' ⟨rfl,⟨nd,rfl⟩⟩;refine ⟨_,rfl,?_⟩))
             go_ret;exact ⟨eL_,bL HB⟩
           ·replace c70:=Bool.eq_false_iff.mpr c70;subst c70
            rw [if_neg (show ¬ (false = true) by decide)] at H;obtain rfl:=Option.some.inj H;have hcz81_0:=cC_ BK256 0 rfl;have hcz81_1:=cC_ BK256 1 rfl;have hcz81_2:=cC_ BK256 2 rfl;have hcz81_3:=cC_ BK256 3 rfl;have hcz81_4:=cC_ BK256 4 rfl;have hfz81_0:=kF BK256.out 0;have hfz81_1:=kF BK256.out 1;have hfz81_2:=kF BK256.out 2;have hfz81_3:=kF BK256.out 3;have hfz81_4:=kF BK256.out 4
            try go_wp2_with (first|((with_reducible refine gate_callee (f:=34) rfl ?_);refine goesL_ (some 73) rfl rfl Tryd.func34 (by kernel_rfl) rfl #[.int .i64 a0_2,.int .i64 0,.int .i64 100000000] rfl lA ?_;(with_reducible refine (spec_l1in.calls a0_2 0 100000000 true _ A66.out).mono ?_);rintro e w' ⟨rfl,⟨nd,rfl⟩⟩;refine ⟨_,rfl,?_⟩))
            (try (rw [drewN_self wr];generalize hq_ : World.drewN wr _ = wr;have n0_ : As (wr.heap[gb256]? = some (.cells #[.slice A0_0 l0_0.length c0_0,.slice A0_1 l0_1.length c0_1,.int .i64 a0_2,.int .i64 a0_3,.int .i64 a0_4] 26 (0,0))):=⟨by rw [← hq_];exact (kL BK256)⟩;have n1_ : As (Below w.heap.size w wr):=⟨by rw [← hq_];exact (bL HB)⟩;clear BK256 HB hq_;have BK256:=n0_;have HB:=n1_;clear n0_ n1_))
            have n0_:=Am (kD BK256.out);have n1_:=Am (bD HB.out);clear BK256;clear HB;have BK256:=n0_;have HB:=n1_;clear n0_ n1_;refine start_ (n:=6) (S:=fun w' => w'.cell? ⟨gb256,0,none⟩ = some (.slice A0_0 l0_0.length c0_0)∧w'.cell? ⟨gb256,1,none⟩ = some (.slice A0_1 l0_1.length c0_1)∧w'.cell? ⟨gb256,2,none⟩ = some (.int .i64 a0_2)∧w'.cell? ⟨gb256,3,none⟩ = some (.int .i64 a0_3)∧w'.cell? ⟨gb256,4,none⟩ = some (.int .i64 a0_4)) (ds:=[]) #[false,false,false,false,false,false] (by kernel_rfl) rfl rfl ⟨cC_ BK256 0 rfl,cC_ BK256 1 rfl,cC_ BK256 2 rfl,cC_ BK256 3 rfl,cC_ BK256 4 rfl⟩ (fun hHeld => ?_);generalize wr.drew = w82 at BK256 HB hHeld ⊢;refine pure_ (i:=0) (N:=some 75) (v:=?_) (a':=?_) #[true,false,false,false,false,false] rfl rfl (by kernel_rfl) (fun _ _ _ h => h) (Or.inl ⟨by rfl,?_⟩) ?_ ?_;rotate_left
            ·intro w'
             go_simp
             with_reducible rfl
            rotate_left
            ·simp only [Act.put,pS]
             rfl
            refine take_ (i:=1) (N:=some 76) (v:=?_) (a':=?_) #[true,true,false,false,false,false] rfl rfl (by kernel_rfl) (fun _ _ _ h => h) (Or.inl ⟨by rfl,?_⟩) hHeld ?_ ?_;rotate_left
            ·rintro w' ⟨s0,s1,s2,s3,s4⟩
             go_simp
             with_reducible rfl
            rotate_left
            ·simp only [Act.put,pS]
             rfl
            refine take_ (i:=2) (N:=some 77) (v:=?_) (a':=?_) #[true,true,true,false,false,false] rfl rfl (by kernel_rfl) (fun _ _ _ h => h) (Or.inl ⟨by rfl,?_⟩) hHeld ?_ ?_;rotate_left
            ·rintro w' ⟨s0,s1,s2,s3,s4⟩
             go_simp
             with_reducible rfl
            rotate_left
            ·simp only [Act.put,pS]
             rfl
            refine one_ (i:=3) (N:=some 78) #[true,true,true,true,false,false] rfl rfl (by kernel_rfl) (by decide) (fun K hK => ?_);refine goes_ Tryd.func36 (by kernel_rfl) rfl #[.agg #[.slice A0_0 l0_0.length c0_0,.slice A0_1 l0_1.length c0_1,.int .i64 a0_2,.int .i64 a0_3,.int .i64 a0_4]] (by rfl) rfl rfl lA ?_
            with_reducible refine (spec_l2total.calls k3 _ _ l0_0 _ _ l0_1 a0_2 a0_3 a0_4 t269 _ ?side1 ?side2 ?side3 ?side4 A68.out).mono ?_
            (case side1 => exact cL_ HR0_0 HB)
            (case side2 => exact HC0_0.out)
            (case side3 => exact cL_ HR0_1 HB)
            (case side4 => exact HC0_1.out)
            rintro e w83 ⟨rfl,hb⟩;refine ⟨_,rfl,?_⟩;have n0_:=Am (kB_ BK256 hb);have n1_:=Am (below_step (bL HB) hb);clear BK256;clear HB;have BK256:=n0_;have HB:=n1_;clear n0_ n1_;(try clear hb);(try clear hb2);(try clear hk);(try clear hi);refine hK.out _ _ ⟨cC_ BK256 0 rfl,cC_ BK256 1 rfl,cC_ BK256 2 rfl,cC_ BK256 3 rfl,cC_ BK256 4 rfl⟩ (fun hHeld => ?_);clear hK K;refine norm_ (a':=?_) ?_ ?_;rotate_left
            ·show Act.put _ (some 78) _ = _
             simp only [Act.put,pS]
             rfl
            refine one_ (i:=4) (N:=some 79) #[true,true,true,true,true,false] rfl rfl (by kernel_rfl) (by decide) (fun K hK => ?_);refine goes_ Tryd.func34 (by kernel_rfl) rfl #[.int .i64 a0_3,.int .i64 0,.int .i64 t269] (by rfl) rfl rfl lA ?_
            with_reducible refine (spec_l1in.calls a0_3 0 t269 false _ A69.out).mono ?_
            rintro e w' ⟨rfl,⟨nd,rfl⟩⟩;refine ⟨_,rfl,?_⟩;refine hK.out _ _ ⟨cC_ BK256 0 rfl,cC_ BK256 1 rfl,cC_ BK256 2 rfl,cC_ BK256 3 rfl,cC_ BK256 4 rfl⟩ (fun hHeld => ?_);clear hK K;refine norm_ (a':=?_) ?_ ?_;rotate_left
            ·show Act.put _ (some 79) _ = _
             simp only [Act.put,pS]
             rfl
            refine pure_ (i:=5) (N:=some 80) (v:=?_) (a':=?_) #[true,true,true,true,true,true] rfl rfl (by kernel_rfl) (fun _ _ _ h => h) (Or.inl ⟨by rfl,?_⟩) ?_ ?_;rotate_left
            ·intro w'
             go_simp
             with_reducible rfl
            rotate_left
            ·simp only [Act.put,pS]
             rfl
            refine done_ (by kernel_rfl) ?_
            try go_wp2
            go_ret;exact ⟨eL_,bL HB⟩
          ·replace c67:=Bool.eq_false_iff.mpr c67;subst c67
           rw [if_neg (show ¬ (false = true) by decide)] at H;obtain rfl:=Option.some.inj H;have hcz84_0:=cC_ BK256 0 rfl;have hcz84_1:=cC_ BK256 1 rfl;have hcz84_2:=cC_ BK256 2 rfl;have hcz84_3:=cC_ BK256 3 rfl;have hcz84_4:=cC_ BK256 4 rfl;have hfz84_0:=kF BK256.out 0;have hfz84_1:=kF BK256.out 1;have hfz84_2:=kF BK256.out 2;have hfz84_3:=kF BK256.out 3;have hfz84_4:=kF BK256.out 4
           go_wp2_with (first|((with_reducible refine gate_callee (f:=34) rfl ?_);refine goesL_ (some 73) rfl rfl Tryd.func34 (by kernel_rfl) rfl #[.int .i64 a0_2,.int .i64 0,.int .i64 100000000] rfl lA ?_;(with_reducible refine (spec_l1in.calls a0_2 0 100000000 false _ A66.out).mono ?_);rintro e w' ⟨rfl,⟨nd,rfl⟩⟩;refine ⟨_,rfl,?_⟩))
           go_ret;exact ⟨eL_,bL HB⟩

end Go.Proofs.YtanjbdgmnecacaaDoor.PT
