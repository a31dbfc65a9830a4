-- Written by a program of this session (wip/print/myprint.py) over the kit's print, with contracts of its own; not a text of print.sh's.
import Derived.Test.YtanjbdgmnecacaaPEx0
import Derived.Test.YtanjbdgmnecacaaPEx4
import Derived.Test.YtanjbdgmnecacaaPEx6
import Derived.Test.YtanjbdgmnecacaaPEx7
import Derived.Test.YtanjbdgmnecacaaPEx9
namespace Go.Proofs.Ytanjbdgmnecacaa.PE
open Go.RowKit Go.Proofs.YtanjbdgmnecacaaW.PrintWords Go.Proofs.YtanjbdgmnecacaaW.PrintLast Go.Proofs.YtanjbdgmnecacaaW.PrintMore
attribute [local go_sem] max2_int min2_int max_two min_two   -- for this text's walks alone
set_option linter.unusedVariables false
set_option linter.unusedSimpArgs false

/-! ### spec_RunOk: function 17 -/
mutual
def spec_RunOk.j0 : Nat → Int → Int → Int → List Int → Bool → List (S39) → List (S45) → Int → Int → Int → Option (Bool)
 | 0,_,_,_,_,_,_,_,_,_,_ => none
 | k + 1,x1,x2,x3,x4,x26,x151000,x151001,x151002,x151003,x151004 => if x26 = true then (some false) else (spec_RunOk.l0 k x2 0 0 x4 (x4.length : Int) 0 x151000 x151001 x151002 x151003 x151004 x151000 x151001 x151002 x151003 x151004 x1 x2 x3)
def spec_RunOk.l0 : Nat → Int → Int → Int → List Int → Int → Int → List (S39) → List (S45) → Int → Int → Int → List (S39) → List (S45) → Int → Int → Int → Int → Int → Int → Option (Bool)
 | 0,_,_,_,_,_,_,_,_,_,_,_,_,_,_,_,_,_,_,_ => none
 | k + 1,x2,x12,x13,x33,x34,x35,x151000,x151001,x151002,x151003,x151004,x153000,x153001,x153002,x153003,x153004,x153005,x153006,x153007 => if x35 < x34 then (if 0 ≤ x35 then (if x35 < (x33.length : Int) then ((spec_l4G_low.f k x153000 x153001 x153002 x153003 x153004 x153005 x153006 x153007 ([] : List Int) x12 x13).bind fun bt161 => (if (rd x33 x35) < bt161.1 then (some false) else ((spec_l4G_high.f x153000 x153001 bt161.2.1 bt161.2.2.1 bt161.2.2.2.1 bt161.2.2.2.2.1 bt161.2.2.2.2.2.1 bt161.2.2.2.2.2.2 ([] : List Int) x13).bind fun bt168 => (if (rd x33 x35) > bt168.1 then (some false) else ((spec_l3may.f k x151000 x151001 x151002 x151003 x151004 (wrap64 (x2 + x12)) (rd x33 x35)).bind fun t175 => (if t175 = true then (spec_RunOk.l0 k x2 (wrap64 (x12 + (rd x33 x35))) (rd x33 x35) x33 x34 (wrap64 (x35 + 1)) x151000 x151001 x151002 x151003 x151004 x153000 x153001 bt168.2.1 bt168.2.2.1 bt168.2.2.2.1 bt168.2.2.2.2.1 bt168.2.2.2.2.2.1 bt168.2.2.2.2.2.2) else (some false))))))) else (none)) else (none)) else ((spec_l4G_home.f x153000 x153001 x153002 x153003 x153004 x153005 x153006 x153007 ([] : List Int) x12 x13).bind fun bt153 => (some bt153.1))
end
def spec_RunOk.f (k : Nat) (l0_0 : List (S39)) (l0_1 : List (S45)) (a0_2 : Int) (a0_3 : Int) (a0_4 : Int) (a1 : Int) (a2 : Int) (a3 : Int) (l4 : List Int) : Option (Bool):=(spec_l4good.f k l0_0 l0_1 a0_2 a0_3 a0_4 a1 a2 a3).bind fun t151 => (if t151 = true then (spec_RunOk.j0 k a1 a2 a3 l4 (decide ((l4.length : Int) > 2000)) l0_0 l0_1 a0_2 a0_3 a0_4) else (spec_RunOk.j0 k a1 a2 a3 l4 true l0_0 l0_1 a0_2 a0_3 a0_4))
theorem spec_RunOk.mono_l : ∀ k,(∀ y0 y1 y2 y3 y4 y5 y6 y7 y8 y9,LeO (spec_RunOk.j0 k y0 y1 y2 y3 y4 y5 y6 y7 y8 y9) (spec_RunOk.j0 (k + 1) y0 y1 y2 y3 y4 y5 y6 y7 y8 y9))∧(∀ y0 y1 y2 y3 y4 y5 y6 y7 y8 y9 y10 y11 y12 y13 y14 y15 y16 y17 y18,LeO (spec_RunOk.l0 k y0 y1 y2 y3 y4 y5 y6 y7 y8 y9 y10 y11 y12 y13 y14 y15 y16 y17 y18) (spec_RunOk.l0 (k + 1) y0 y1 y2 y3 y4 y5 y6 y7 y8 y9 y10 y11 y12 y13 y14 y15 y16 y17 y18))
 | 0 => ⟨fun _ _ _ _ _ _ _ _ _ _ r h => by simp [spec_RunOk.j0] at h,fun _ _ _ _ _ _ _ _ _ _ _ _ _ _ _ _ _ _ _ r h => by simp [spec_RunOk.l0] at h⟩
 | k + 1 => by
  obtain ⟨ih0,ih1⟩:=spec_RunOk.mono_l k
  refine ⟨?_,?_⟩
  ·intro y0 y1 y2 y3 y4 y5 y6 y7 y8 y9
   unfold spec_RunOk.j0
   repeat' first
   | (with_reducible exact ih0 _ _ _ _ _ _ _ _ _ _)
   | (with_reducible exact ih1 _ _ _ _ _ _ _ _ _ _ _ _ _ _ _ _ _ _ _)
   | (with_reducible exact spec_l3may.mono _ _ _ _ _ _ _ _)
   | (with_reducible exact spec_l4G_low.mono _ _ _ _ _ _ _ _ _ _ _ _)
   | (with_reducible exact spec_l4good.mono _ _ _ _ _ _ _ _ _)
   | (with_reducible exact LeO.refl _)
   | (with_reducible exact LeO.none _)
   | (with_reducible refine LeO.ite ?_ ?_)
   | (with_reducible refine LeO.bind ?_ (fun _ => ?_))
   | exact ih0 _ _ _ _ _ _ _ _ _ _
   | exact ih1 _ _ _ _ _ _ _ _ _ _ _ _ _ _ _ _ _ _ _
   | exact spec_l3may.mono _ _ _ _ _ _ _ _
   | exact spec_l4G_low.mono _ _ _ _ _ _ _ _ _ _ _ _
   | exact spec_l4good.mono _ _ _ _ _ _ _ _ _
   | exact LeO.none _
   | refine LeO.ite ?_ ?_
   | refine LeO.bind ?_ (fun _ => ?_)
  ·intro y0 y1 y2 y3 y4 y5 y6 y7 y8 y9 y10 y11 y12 y13 y14 y15 y16 y17 y18
   unfold spec_RunOk.l0
   repeat' first
   | (with_reducible exact ih0 _ _ _ _ _ _ _ _ _ _)
   | (with_reducible exact ih1 _ _ _ _ _ _ _ _ _ _ _ _ _ _ _ _ _ _ _)
   | (with_reducible exact spec_l3may.mono _ _ _ _ _ _ _ _)
   | (with_reducible exact spec_l4G_low.mono _ _ _ _ _ _ _ _ _ _ _ _)
   | (with_reducible exact spec_l4good.mono _ _ _ _ _ _ _ _ _)
   | (with_reducible exact LeO.refl _)
   | (with_reducible exact LeO.none _)
   | (with_reducible refine LeO.ite ?_ ?_)
   | (with_reducible refine LeO.bind ?_ (fun _ => ?_))
   | exact ih0 _ _ _ _ _ _ _ _ _ _
   | exact ih1 _ _ _ _ _ _ _ _ _ _ _ _ _ _ _ _ _ _ _
   | exact spec_l3may.mono _ _ _ _ _ _ _ _
   | exact spec_l4G_low.mono _ _ _ _ _ _ _ _ _ _ _ _
   | exact spec_l4good.mono _ _ _ _ _ _ _ _ _
   | exact LeO.none _
   | refine LeO.ite ?_ ?_
   | refine LeO.bind ?_ (fun _ => ?_)
theorem spec_RunOk.mono : ∀ a0 a1 a2 a3 a4 a5 a6 a7 a8 k,LeO (spec_RunOk.f k a0 a1 a2 a3 a4 a5 a6 a7 a8) (spec_RunOk.f (k + 1) a0 a1 a2 a3 a4 a5 a6 a7 a8):=by
 intro a0 a1 a2 a3 a4 a5 a6 a7 a8 k
 obtain ⟨ih0,ih1⟩:=spec_RunOk.mono_l k
 unfold spec_RunOk.f
 repeat' first
   | (with_reducible exact ih0 _ _ _ _ _ _ _ _ _ _)
   | (with_reducible exact ih1 _ _ _ _ _ _ _ _ _ _ _ _ _ _ _ _ _ _ _)
   | (with_reducible exact spec_l3may.mono _ _ _ _ _ _ _ _)
   | (with_reducible exact spec_l4G_low.mono _ _ _ _ _ _ _ _ _ _ _ _)
   | (with_reducible exact spec_l4good.mono _ _ _ _ _ _ _ _ _)
   | (with_reducible exact LeO.refl _)
   | (with_reducible exact LeO.none _)
   | (with_reducible refine LeO.ite ?_ ?_)
   | (with_reducible refine LeO.bind ?_ (fun _ => ?_))
   | exact ih0 _ _ _ _ _ _ _ _ _ _
   | exact ih1 _ _ _ _ _ _ _ _ _ _ _ _ _ _ _ _ _ _ _
   | exact spec_l3may.mono _ _ _ _ _ _ _ _
   | exact spec_l4G_low.mono _ _ _ _ _ _ _ _ _ _ _ _
   | exact spec_l4good.mono _ _ _ _ _ _ _ _ _
   | exact LeO.none _
   | refine LeO.ite ?_ ?_
   | refine LeO.bind ?_ (fun _ => ?_)
set_option maxHeartbeats 8000000 in
set_option maxRecDepth 100000 in
theorem spec_RunOk.calls (k : Nat) (A0_0 : Option Addr) (c0_0 : Nat) (l0_0 : List (S39)) (A0_1 : Option Addr) (c0_1 : Nat) (l0_1 : List (S45)) (a0_2 : Int) (a0_3 : Int) (a0_4 : Int) (a1 : Int) (a2 : Int) (a3 : Int) (A4 : Option Addr) (c4 : Nat) (l4 : List Int) (r : Bool) (w : World) (hr0_0 : Kd.C k39 w A0_0 l0_0.length l0_0) (hc0_0 : l0_0.length ≤ c0_0) (hr0_1 : Kd.C k45 w A0_1 l0_1.length l0_1) (hc0_1 : l0_1.length ≤ c0_1) (hr4 : Kd.C (Kd.int .i64) w A4 l4.length l4) (hc4 : l4.length ≤ c4) (h : spec_RunOk.f k l0_0 l0_1 a0_2 a0_3 a0_4 a1 a2 a3 l4 = some r) :
  Calls Try.prog 17 #[.agg #[.slice A0_0 l0_0.length c0_0,.slice A0_1 l0_1.length c0_1,.int .i64 a0_2,.int .i64 a0_3,.int .i64 a0_4],.int .i64 a1,.int .i64 a2,.int .i64 a3,.slice A4 l4.length c4] w fun e w' => e = .returned (.bool r)∧Below w.heap.size w w':=by
 have hu26:=Try.underlying26
 have hu72:=Try.underlying72
 have HR0_0:=Am hr0_0
 have HC0_0:=Am hc0_0
 clear hr0_0 hc0_0
 have HR0_1:=Am hr0_1
 have HC0_1:=Am hc0_1
 clear hr0_1 hc0_1
 have HR4:=Am hr4
 have HC4:=Am hc4
 clear hr4 hc4
 have HB:=Am (Below.refl w.heap.size w)
 have H : ((spec_l4good.f k l0_0 l0_1 a0_2 a0_3 a0_4 a1 a2 a3).bind fun t151 => (if t151 = true then (spec_RunOk.j0 k a1 a2 a3 l4 (decide ((l4.length : Int) > 2000)) l0_0 l0_1 a0_2 a0_3 a0_4) else (spec_RunOk.j0 k a1 a2 a3 l4 true l0_0 l0_1 a0_2 a0_3 a0_4))) = some r:=h
 clear h
 have HC6:=Am H
 clear H
 go_enter Try.func17,Try.ntmps17
 go_upto_region 1 with (first|((with_reducible refine gate_dst (N:=5) rfl ?_);(try (refine gate_guard (by rfl) ?_;dsimp only));refine box_event ?hg (N:=5) ?hd (cs:=#[.slice A0_0 l0_0.length c0_0,.slice A0_1 l0_1.length c0_1,.int .i64 a0_2,.int .i64 a0_3,.int .i64 a0_4]) (t:=26) ?hr ?_;(case hd => rfl);(case hg => rfl);(case hr => first|(go_simp;done)|(go_simp;rfl));intro gb150 hg w7 hbox hb;have n0_:=Am (below_step (by repeat (first|(with_reducible first|exact HB.out|apply bA|apply bN|apply bD)|exact HB.out)) hb);have n1_:=Am (hbox);have n2_:=Am ((by rw [hg];exact (below_size (by repeat (first|(with_reducible first|exact HB.out|apply bA|apply bN|apply bD)|exact HB.out))) : w.heap.size ≤ gb150));have n3_:=Am ((by rw [hg];exact (below_size (by repeat (first|(with_reducible first|exact HB.out|apply bA|apply bN|apply bD)|exact HB.out))) : w.heap.size ≤ gb150));clear HB;have HB:=n0_;have BK150:=n1_;have GW150:=n2_;have GE150:=n3_;clear n0_ n1_ n2_ n3_;clear hb hbox hg))
 (try simp only [Act.put,List.setIfInBounds_toArray,List.set_cons_zero,List.set_cons_succ])
 go_cut [26] (fun v26 wc => ∃ (kq : Nat) (x26_5 : Bool),v26 = .bool x26_5∧As (spec_RunOk.j0 kq a1 a2 a3 l4 x26_5 l0_0 l0_1 a0_2 a0_3 a0_4 = some r)∧As (kq ≤ k)∧As (wc.heap[gb150]? = some (.cells #[(.slice A0_0 l0_0.length c0_0),(.slice A0_1 l0_1.length c0_1),.int .i64 a0_2,.int .i64 a0_3,.int .i64 a0_4] 26 (0,0)))∧As (Below w.heap.size w wc))
 case first =>
  have H:=HC6.out
  clear HC6
  replace H:=Option.bind_eq_some_iff.mp H
  obtain ⟨t151,A80,H⟩:=H
  replace H : (if t151 = true then (spec_RunOk.j0 k a1 a2 a3 l4 (decide ((l4.length : Int) > 2000)) l0_0 l0_1 a0_2 a0_3 a0_4) else (spec_RunOk.j0 k a1 a2 a3 l4 true l0_0 l0_1 a0_2 a0_3 a0_4)) = some r:=H
  have A8:=Am A80
  clear A80
  by_cases c9 : t151 = true
  ·subst c9
   have H1 : (spec_RunOk.j0 k a1 a2 a3 l4 (decide ((l4.length : Int) > 2000)) l0_0 l0_1 a0_2 a0_3 a0_4) = some r:=by rw [if_pos rfl] at H;exact H
   clear H
   have H:=H1
   clear H1
   have H':=Am H
   clear H
   have hcz10_0 : w7.cell? ⟨gb150,0,none⟩ = some (.slice A0_0 l0_0.length c0_0):=(kC BK150.out 0).trans rfl
   have hcz10_1 : w7.cell? ⟨gb150,1,none⟩ = some (.slice A0_1 l0_1.length c0_1):=(kC BK150.out 1).trans rfl
   have hcz10_2 : w7.cell? ⟨gb150,2,none⟩ = some (.int .i64 a0_2):=(kC BK150.out 2).trans rfl
   have hcz10_3 : w7.cell? ⟨gb150,3,none⟩ = some (.int .i64 a0_3):=(kC BK150.out 3).trans rfl
   have hcz10_4 : w7.cell? ⟨gb150,4,none⟩ = some (.int .i64 a0_4):=(kC BK150.out 4).trans rfl
   have hfz10_0:=kF BK150.out 0
   have hfz10_1:=kF BK150.out 1
   have hfz10_2:=kF BK150.out 2
   have hfz10_3:=kF BK150.out 3
   have hfz10_4:=kF BK150.out 4
   go_wp2_with (first|((with_reducible refine gate_callee (f:=44) rfl ?_);refine goesL_ (some 20) rfl rfl Try.func44 (by kernel_rfl) rfl #[.agg #[.slice A0_0 l0_0.length c0_0,.slice A0_1 l0_1.length c0_1,.int .i64 a0_2,.int .i64 a0_3,.int .i64 a0_4],.int .i64 a1,.int .i64 a2,.int .i64 a3] rfl (by (try simp only [List.map_toArray,List.map_cons,List.map_nil]);first|done|rfl|(simp only [List.length_drop,List.length_take];rfl)) ?_;(with_reducible refine (spec_l4good.calls k _ _ l0_0 _ _ l0_1 a0_2 a0_3 a0_4 a1 a2 a3 true _ ?side1 ?side2 ?side3 ?side4 A8.out).mono ?_);(case side1 => repeat (first|exact (Kd.C_below HR0_0.out HB.out)|(with_reducible refine Kd.C_alloc ?_ _)|(with_reducible refine Kd.C_drewN ?_ _)|(with_reducible refine Kd.C_drew ?_)));(case side2 => exact HC0_0.out);(case side3 => repeat (first|exact (Kd.C_below HR0_1.out HB.out)|(with_reducible refine Kd.C_alloc ?_ _)|(with_reducible refine Kd.C_drewN ?_ _)|(with_reducible refine Kd.C_drew ?_)));(case side4 => exact HC0_1.out);rintro e w11 ⟨rfl,hb⟩;refine ⟨_,rfl,?_⟩;have n0_:=Am (blk_below (g:=gb150) (o:=.cells #[.slice A0_0 l0_0.length c0_0,.slice A0_1 l0_1.length c0_1,.int .i64 a0_2,.int .i64 a0_3,.int .i64 a0_4] 26 (0,0)) (by (with_reducible repeat (first|refine kN ?_ _|refine kD ?_|refine kA ?_ _));exact BK150.out) hb);have n1_:=Am (below_step (by repeat (first|(with_reducible first|exact HB.out|apply bA|apply bN|apply bD|refine bS ?_ GE150.out)|exact HB.out)) hb);clear BK150;clear HB;have BK150:=n0_;have HB:=n1_;clear n0_ n1_;(try clear hb);(try clear hb2);(try clear hk);(try clear hi)))
   go_meet
   case rel => exact ⟨_,(decide ((l4.length : Int) > 2000)),(by first|rfl|(simp;done)|(simp [*];done)),H',⟨by first|omega|exact Nat.le_refl _⟩,⟨by (with_reducible repeat (first|refine kN ?_ _|refine kD ?_|refine kA ?_ _));exact BK150.out⟩,⟨by repeat (first|(with_reducible first|exact HB.out|apply bA|apply bN|apply bD|refine bS ?_ GE150.out)|exact HB.out)⟩⟩
  ·replace c9:=Bool.eq_false_iff.mpr c9
   subst c9
   have H1 : (spec_RunOk.j0 k a1 a2 a3 l4 true l0_0 l0_1 a0_2 a0_3 a0_4) = some r:=by rw [if_neg (show ¬ (false = true) by decide)] at H;exact H
   clear H
   have H:=H1
   clear H1
   have H':=Am H
   clear H
   have hcz12_0 : w7.cell? ⟨gb150,0,none⟩ = some (.slice A0_0 l0_0.length c0_0):=(kC BK150.out 0).trans rfl
   have hcz12_1 : w7.cell? ⟨gb150,1,none⟩ = some (.slice A0_1 l0_1.length c0_1):=(kC BK150.out 1).trans rfl
   have hcz12_2 : w7.cell? ⟨gb150,2,none⟩ = some (.int .i64 a0_2):=(kC BK150.out 2).trans rfl
   have hcz12_3 : w7.cell? ⟨gb150,3,none⟩ = some (.int .i64 a0_3):=(kC BK150.out 3).trans rfl
   have hcz12_4 : w7.cell? ⟨gb150,4,none⟩ = some (.int .i64 a0_4):=(kC BK150.out 4).trans rfl
   have hfz12_0:=kF BK150.out 0
   have hfz12_1:=kF BK150.out 1
   have hfz12_2:=kF BK150.out 2
   have hfz12_3:=kF BK150.out 3
   have hfz12_4:=kF BK150.out 4
   go_wp2_with (first|((with_reducible refine gate_callee (f:=44) rfl ?_);refine goesL_ (some 20) rfl rfl Try.func44 (by kernel_rfl) rfl #[.agg #[.slice A0_0 l0_0.length c0_0,.slice A0_1 l0_1.length c0_1,.int .i64 a0_2,.int .i64 a0_3,.int .i64 a0_4],.int .i64 a1,.int .i64 a2,.int .i64 a3] rfl (by (try simp only [List.map_toArray,List.map_cons,List.map_nil]);first|done|rfl|(simp only [List.length_drop,List.length_take];rfl)) ?_;(with_reducible refine (spec_l4good.calls k _ _ l0_0 _ _ l0_1 a0_2 a0_3 a0_4 a1 a2 a3 false _ ?side1 ?side2 ?side3 ?side4 A8.out).mono ?_);(case side1 => repeat (first|exact (Kd.C_below HR0_0.out HB.out)|(with_reducible refine Kd.C_alloc ?_ _)|(with_reducible refine Kd.C_drewN ?_ _)|(with_reducible refine Kd.C_drew ?_)));(case side2 => exact HC0_0.out);(case side3 => repeat (first|exact (Kd.C_below HR0_1.out HB.out)|(with_reducible refine Kd.C_alloc ?_ _)|(with_reducible refine Kd.C_drewN ?_ _)|(with_reducible refine Kd.C_drew ?_)));(case side4 => exact HC0_1.out);rintro e w13 ⟨rfl,hb⟩;refine ⟨_,rfl,?_⟩;have n0_:=Am (blk_below (g:=gb150) (o:=.cells #[.slice A0_0 l0_0.length c0_0,.slice A0_1 l0_1.length c0_1,.int .i64 a0_2,.int .i64 a0_3,.int .i64 a0_4] 26 (0,0)) (by (with_reducible repeat (first|refine kN ?_ _|refine kD ?_|refine kA ?_ _));exact BK150.out) hb);have n1_:=Am (below_step (by repeat (first|(with_reducible first|exact HB.out|apply bA|apply bN|apply bD|refine bS ?_ GE150.out)|exact HB.out)) hb);clear BK150;clear HB;have BK150:=n0_;have HB:=n1_;clear n0_ n1_;(try clear hb);(try clear hb2);(try clear hk);(try clear hi)))
   go_meet
   case rel => exact ⟨_,(true),(by first|rfl|(simp;done)|(simp [*];done)),H',⟨by first|omega|exact Nat.le_refl _⟩,⟨by (with_reducible repeat (first|refine kN ?_ _|refine kD ?_|refine kA ?_ _));exact BK150.out⟩,⟨by repeat (first|(with_reducible first|exact HB.out|apply bA|apply bN|apply bD|refine bS ?_ GE150.out)|exact HB.out)⟩⟩
 case rest =>
  clear HC6
  try clear c1
  try clear p2
  try clear c4
  try clear c9
  try clear hcz10_0
  try clear hcz10_1
  try clear hcz10_2
  try clear hcz10_3
  try clear hcz10_4
  try clear hcz12_0
  try clear hcz12_1
  try clear hcz12_2
  try clear hcz12_3
  try clear hcz12_4
  try clear hfz10_0
  try clear hfz10_1
  try clear hfz10_2
  try clear hfz10_3
  try clear hfz10_4
  try clear hfz12_0
  try clear hfz12_1
  try clear hfz12_2
  try clear hfz12_3
  try clear hfz12_4
  obtain ⟨kq,x26_5,rfl,HA,HJ5,BK150,HB⟩:=hcut
  cases kq with
  | zero => exact absurd HA.out (by simp [spec_RunOk.j0])
  | succ kj5 =>
   have H:=HA.out
   clear HA
   simp only [spec_RunOk.j0] at H
   by_cases c14 : x26_5 = true
   ·subst c14
    have H1 : (some false) = some r:=by rw [if_pos rfl] at H;exact H
    clear H
    have H:=H1
    clear H1
    obtain rfl:=Option.some.inj H
    go_wp2
    go_ret
    exact ⟨by first|rfl|(simp [errW_none,errW_some] <;> rfl)|(simp [*,errW_none,errW_some] <;> rfl),by repeat (first|(with_reducible first|exact HB.out|apply bA|apply bN|apply bD|refine bS ?_ GE150.out)|exact HB.out)⟩
   ·replace c14:=Bool.eq_false_iff.mpr c14
    subst c14
    have H1 : (spec_RunOk.l0 kj5 a2 0 0 l4 (l4.length : Int) 0 l0_0 l0_1 a0_2 a0_3 a0_4 l0_0 l0_1 a0_2 a0_3 a0_4 a1 a2 a3) = some r:=by rw [if_neg (show ¬ (false = true) by decide)] at H;exact H
    clear H
    have H:=H1
    clear H1
    have H':=Am H
    clear H
    have hcz15_0 : wc.cell? ⟨gb150,0,none⟩ = some (.slice A0_0 l0_0.length c0_0):=(kC BK150.out 0).trans rfl
    have hcz15_1 : wc.cell? ⟨gb150,1,none⟩ = some (.slice A0_1 l0_1.length c0_1):=(kC BK150.out 1).trans rfl
    have hcz15_2 : wc.cell? ⟨gb150,2,none⟩ = some (.int .i64 a0_2):=(kC BK150.out 2).trans rfl
    have hcz15_3 : wc.cell? ⟨gb150,3,none⟩ = some (.int .i64 a0_3):=(kC BK150.out 3).trans rfl
    have hcz15_4 : wc.cell? ⟨gb150,4,none⟩ = some (.int .i64 a0_4):=(kC BK150.out 4).trans rfl
    have hfz15_0:=kF BK150.out 0
    have hfz15_1:=kF BK150.out 1
    have hfz15_2:=kF BK150.out 2
    have hfz15_3:=kF BK150.out 3
    have hfz15_4:=kF BK150.out 4
    go_wp2_with (first|((with_reducible refine gate_dst (N:=32) rfl ?_);(try (refine gate_guard (by rfl) ?_;dsimp only));refine box_event ?hg (N:=32) ?hd (cs:=#[.slice A0_0 l0_0.length c0_0,.slice A0_1 l0_1.length c0_1,.int .i64 a0_2,.int .i64 a0_3,.int .i64 a0_4,.int .i64 a1,.int .i64 a2,.int .i64 a3,.slice none 0 0]) (t:=72) ?hr ?_;(case hd => rfl);(case hg => rfl);(case hr => first|(go_simp;done)|(go_simp;rfl));intro gb152 hg w16 hbox hb;have n0_:=Am (blk_below (g:=gb150) (o:=.cells #[.slice A0_0 l0_0.length c0_0,.slice A0_1 l0_1.length c0_1,.int .i64 a0_2,.int .i64 a0_3,.int .i64 a0_4] 26 (0,0)) (by (with_reducible repeat (first|refine kN ?_ _|refine kD ?_|refine kA ?_ _));exact BK150.out) hb);have n1_:=Am (below_step (by repeat (first|(with_reducible first|exact HB.out|apply bA|apply bN|apply bD|refine bS ?_ GE150.out)|exact HB.out)) hb);have n2_:=Am (hbox);have n3_:=Am ((by rw [hg];exact (below_size (by repeat (first|(with_reducible first|exact HB.out|apply bA|apply bN|apply bD|refine bS ?_ GE150.out)|exact HB.out))) : w.heap.size ≤ gb152));have n4_:=Am ((by rw [hg];exact (below_size (by repeat (first|(with_reducible first|exact HB.out|apply bA|apply bN|apply bD|refine bS ?_ GE150.out)|exact HB.out))) : w.heap.size ≤ gb152));have n5_:=Am ((by rw [hg];exact Nat.ne_of_lt (blk_lt (g:=gb150) (o:=.cells #[.slice A0_0 l0_0.length c0_0,.slice A0_1 l0_1.length c0_1,.int .i64 a0_2,.int .i64 a0_3,.int .i64 a0_4] 26 (0,0)) (by (with_reducible repeat (first|refine kN ?_ _|refine kD ?_|refine kA ?_ _));exact BK150.out)) : gb150 ≠ gb152));have n6_:=Am ((by rw [hg];exact Nat.ne_of_gt (blk_lt (g:=gb150) (o:=.cells #[.slice A0_0 l0_0.length c0_0,.slice A0_1 l0_1.length c0_1,.int .i64 a0_2,.int .i64 a0_3,.int .i64 a0_4] 26 (0,0)) (by (with_reducible repeat (first|refine kN ?_ _|refine kD ?_|refine kA ?_ _));exact BK150.out)) : gb152 ≠ gb150));clear BK150;clear HB;have BK150:=n0_;have HB:=n1_;have BK152:=n2_;have GW152:=n3_;have GE152:=n4_;have NB150_152:=n5_;have NB152_150:=n6_;clear n0_ n1_ n2_ n3_ n4_ n5_ n6_;clear hb hbox hg))
    go_loopg [12,13,35] kj5 (fun kq v12 v13 v35 w' => ∃ (x12_2 : Int) (x13_2 : Int) (x35_2 : Int) (x153002_2 : Int) (x153003_2 : Int) (x153004_2 : Int) (x153005_2 : Int) (x153006_2 : Int) (x153007_2 : Int),v12 = .int .i64 x12_2∧v13 = .int .i64 x13_2∧v35 = .int .i64 x35_2∧As (spec_RunOk.l0 kq a2 x12_2 x13_2 l4 (l4.length : Int) x35_2 l0_0 l0_1 a0_2 a0_3 a0_4 l0_0 l0_1 x153002_2 x153003_2 x153004_2 x153005_2 x153006_2 x153007_2 = some r)∧As (kq ≤ kj5)∧As (w'.heap[gb150]? = some (.cells #[(.slice A0_0 l0_0.length c0_0),(.slice A0_1 l0_1.length c0_1),.int .i64 a0_2,.int .i64 a0_3,.int .i64 a0_4] 26 (0,0)))∧As (IsS72 w w' gb152 l0_0 l0_1 x153002_2 x153003_2 x153004_2 x153005_2 x153006_2 x153007_2 ([] : List Int))∧As (Below w.heap.size w w'))
    case atStart => exact ⟨(0),(0),(0),(a0_2),(a0_3),(a0_4),(a1),(a2),(a3),(by first|rfl|(simp;done)|(simp [*];done)),(by first|rfl|(simp;done)|(simp [*];done)),(by first|rfl|(simp;done)|(simp [*];done)),H',⟨Nat.le_refl _⟩,⟨by (with_reducible repeat (first|refine kN ?_ _|refine kD ?_|refine kA ?_ _));exact BK150.out⟩,⟨by exact ⟨_,_,_,_,_,_,by (with_reducible repeat (first|refine kN ?_ _|refine kD ?_|refine kA ?_ _));exact BK152.out,GE152.out,⟨HR0_0.out,HC0_0.out⟩,⟨HR0_1.out,HC0_1.out⟩,⟨Kd.C_nil _ _,Nat.le_refl _⟩⟩⟩,⟨by repeat (first|(with_reducible first|exact HB.out|apply bA|apply bN|apply bD|refine bS ?_ GE152.out|refine bS ?_ GE150.out)|exact HB.out)⟩⟩
    case round =>
     clear H'
     try clear c1
     try clear p2
     try clear c4
     try clear c9
     try clear c14
     try clear hcz10_0
     try clear hcz10_1
     try clear hcz10_2
     try clear hcz10_3
     try clear hcz10_4
     try clear hcz12_0
     try clear hcz12_1
     try clear hcz12_2
     try clear hcz12_3
     try clear hcz12_4
     try clear hcz15_0
     try clear hcz15_1
     try clear hcz15_2
     try clear hcz15_3
     try clear hcz15_4
     try clear hfz10_0
     try clear hfz10_1
     try clear hfz10_2
     try clear hfz10_3
     try clear hfz10_4
     try clear hfz12_0
     try clear hfz12_1
     try clear hfz12_2
     try clear hfz12_3
     try clear hfz12_4
     try clear hfz15_0
     try clear hfz15_1
     try clear hfz15_2
     try clear hfz15_3
     try clear hfz15_4
     try clear p2
     obtain ⟨x12_2,x13_2,x35_2,x153002_2,x153003_2,x153004_2,x153005_2,x153006_2,x153007_2,rfl,rfl,rfl,HA,HK2,BK150,HI152,HB⟩:=hrel
     cases gk with
     | zero => exact absurd HA.out (by simp [spec_RunOk.l0])
     | succ k2 =>
      have H:=HA.out
      clear HA
      simp only [spec_RunOk.l0] at H
      by_cases c17 : x35_2 < (l4.length : Int)
      ·rw [if_pos c17] at H
       have c17b0 : decide (x35_2 < (l4.length : Int)) = true:=decide_eq_true c17
       clear c17
       by_cases c18 : 0 ≤ x35_2
       ·rw [if_pos c18] at H
        have c18b0 : decide (0 ≤ x35_2) = true:=decide_eq_true c18
        clear c18
        by_cases c19 : x35_2 < (l4.length : Int)
        ·rw [if_pos c19] at H
         have c19b0 : decide (x35_2 < (l4.length : Int)) = true:=decide_eq_true c19
         clear c19
         replace H:=Option.bind_eq_some_iff.mp H
         obtain ⟨⟨t161,t162,t163,t164,t165,t166,t167⟩,A200,H⟩:=H
         replace H : (if (rd l4 x35_2) < t161 then (some false) else ((spec_l4G_high.f l0_0 l0_1 t162 t163 t164 t165 t166 t167 ([] : List Int) x13_2).bind fun bt168 => (if (rd l4 x35_2) > bt168.1 then (some false) else ((spec_l3may.f k2 l0_0 l0_1 a0_2 a0_3 a0_4 (wrap64 (a2 + x12_2)) (rd l4 x35_2)).bind fun t175 => (if t175 = true then (spec_RunOk.l0 k2 a2 (wrap64 (x12_2 + (rd l4 x35_2))) (rd l4 x35_2) l4 (l4.length : Int) (wrap64 (x35_2 + 1)) l0_0 l0_1 a0_2 a0_3 a0_4 l0_0 l0_1 bt168.2.1 bt168.2.2.1 bt168.2.2.2.1 bt168.2.2.2.2.1 bt168.2.2.2.2.2.1 bt168.2.2.2.2.2.2) else (some false)))))) = some r:=H
         have A20:=Am A200
         clear A200
         by_cases c21 : (rd l4 x35_2) < t161
         ·rw [if_pos c21] at H
          have c21b0 : decide ((rd l4 x35_2) < t161) = true:=decide_eq_true c21
          clear c21
          obtain rfl:=Option.some.inj H
          have p160 : 0 ≤ (x35_2 : Int):=of_decide_eq_true (by first|(with_reducible assumption)|assumption)
          have q160 : x35_2 < (l4.length : Int):=of_decide_eq_true (by first|(with_reducible assumption)|assumption)
          obtain ⟨ad160,e160,hx160_0⟩:=Kd.at_int HR4.out x35_2 p160 q160
          cases e160
          replace hx160_0:=(HB.out.cell (World.block_lt_of_cell? w _ hx160_0)).trans hx160_0
          replace p160:=eq_true p160
          replace q160:=eq_true q160
          go_wp2_with (first|((with_reducible refine gate_callee (f:=45) rfl ?_);refine goesL_ (some 43) rfl rfl Try.func45 (by kernel_rfl) rfl #[.pointer (some ⟨gb152,0,none⟩),.int .i64 x12_2,.int .i64 x13_2] rfl (by (try simp only [List.map_toArray,List.map_cons,List.map_nil]);first|done|rfl|(simp only [List.length_drop,List.length_take];rfl)) ?_;(with_reducible refine (spec_l4G_low.calls k2 gb152 l0_0 l0_1 x153002_2 x153003_2 x153004_2 x153005_2 x153006_2 x153007_2 ([] : List Int) x12_2 x13_2 t161 t162 t163 t164 t165 t166 t167 w _ ?side1 ?side2 A20.out).mono ?_);(case side1 => repeat (first|(with_reducible first|exact HI152.out|apply IsS72.alloc|apply IsS72.drewN|apply IsS72.drew|apply IsS72.set_2|apply IsS72.set_3|apply IsS72.set_4|apply IsS72.set_5|apply IsS72.set_6|apply IsS72.set_7|refine IsS72.far ?_ NB152_150.out _)|exact HI152.out));(case side2 => repeat (first|(with_reducible first|exact HB.out|apply bA|apply bN|apply bD|refine bS ?_ (IsS72.ge HI152.out)|refine bS ?_ GE150.out)|exact HB.out));rintro e w22 ⟨rfl,hi,hb,hk⟩;refine ⟨_,rfl,?_⟩;have n0_:=Am (KeepBut.blk hk (g':=gb150) (o:=.cells #[.slice A0_0 l0_0.length c0_0,.slice A0_1 l0_1.length c0_1,.int .i64 a0_2,.int .i64 a0_3,.int .i64 a0_4] 26 (0,0)) (by (with_reducible repeat (first|refine kN ?_ _|refine kD ?_|refine kA ?_ _));exact BK150.out) NB150_152.out (by simp));have n1_:=Am (hb);have n2_:=Am (hi);clear BK150;clear HB;clear HI152;have BK150:=n0_;have HB:=n1_;have HI152:=n2_;clear n0_ n1_ n2_;(try clear hb);(try clear hb2);(try clear hk);(try clear hi)))
          go_ret
          exact ⟨by first|rfl|(simp [errW_none,errW_some] <;> rfl)|(simp [*,errW_none,errW_some] <;> rfl),by repeat (first|(with_reducible first|exact HB.out|apply bA|apply bN|apply bD|refine bS ?_ (IsS72.ge HI152.out)|refine bS ?_ GE150.out)|exact HB.out)⟩
         ·rw [if_neg c21] at H
          have c21b0 : decide ((rd l4 x35_2) < t161) = false:=decide_eq_false c21
          clear c21
          replace H:=Option.bind_eq_some_iff.mp H
          obtain ⟨⟨t168,t169,t170,t171,t172,t173,t174⟩,A230,H⟩:=H
          replace H : (if (rd l4 x35_2) > t168 then (some false) else ((spec_l3may.f k2 l0_0 l0_1 a0_2 a0_3 a0_4 (wrap64 (a2 + x12_2)) (rd l4 x35_2)).bind fun t175 => (if t175 = true then (spec_RunOk.l0 k2 a2 (wrap64 (x12_2 + (rd l4 x35_2))) (rd l4 x35_2) l4 (l4.length : Int) (wrap64 (x35_2 + 1)) l0_0 l0_1 a0_2 a0_3 a0_4 l0_0 l0_1 t169 t170 t171 t172 t173 t174) else (some false)))) = some r:=H
          have A23:=Am A230
          clear A230
          by_cases c24 : (rd l4 x35_2) > t168
          ·rw [if_pos c24] at H
           have c24b0 : decide (t168 < (rd l4 x35_2)) = true:=decide_eq_true c24
           clear c24
           obtain rfl:=Option.some.inj H
           have p160 : 0 ≤ (x35_2 : Int):=of_decide_eq_true (by first|(with_reducible assumption)|assumption)
           have q160 : x35_2 < (l4.length : Int):=of_decide_eq_true (by first|(with_reducible assumption)|assumption)
           obtain ⟨ad160,e160,hx160_0⟩:=Kd.at_int HR4.out x35_2 p160 q160
           cases e160
           replace hx160_0:=(HB.out.cell (World.block_lt_of_cell? w _ hx160_0)).trans hx160_0
           replace p160:=eq_true p160
           replace q160:=eq_true q160
           go_wp2_with (first|((with_reducible refine gate_callee (f:=45) rfl ?_);refine goesL_ (some 43) rfl rfl Try.func45 (by kernel_rfl) rfl #[.pointer (some ⟨gb152,0,none⟩),.int .i64 x12_2,.int .i64 x13_2] rfl (by (try simp only [List.map_toArray,List.map_cons,List.map_nil]);first|done|rfl|(simp only [List.length_drop,List.length_take];rfl)) ?_;(with_reducible refine (spec_l4G_low.calls k2 gb152 l0_0 l0_1 x153002_2 x153003_2 x153004_2 x153005_2 x153006_2 x153007_2 ([] : List Int) x12_2 x13_2 t161 t162 t163 t164 t165 t166 t167 w _ ?side1 ?side2 A20.out).mono ?_);(case side1 => repeat (first|(with_reducible first|exact HI152.out|apply IsS72.alloc|apply IsS72.drewN|apply IsS72.drew|apply IsS72.set_2|apply IsS72.set_3|apply IsS72.set_4|apply IsS72.set_5|apply IsS72.set_6|apply IsS72.set_7|refine IsS72.far ?_ NB152_150.out _)|exact HI152.out));(case side2 => repeat (first|(with_reducible first|exact HB.out|apply bA|apply bN|apply bD|refine bS ?_ (IsS72.ge HI152.out)|refine bS ?_ GE150.out)|exact HB.out));rintro e w25 ⟨rfl,hi,hb,hk⟩;refine ⟨_,rfl,?_⟩;have n0_:=Am (KeepBut.blk hk (g':=gb150) (o:=.cells #[.slice A0_0 l0_0.length c0_0,.slice A0_1 l0_1.length c0_1,.int .i64 a0_2,.int .i64 a0_3,.int .i64 a0_4] 26 (0,0)) (by (with_reducible repeat (first|refine kN ?_ _|refine kD ?_|refine kA ?_ _));exact BK150.out) NB150_152.out (by simp));have n1_:=Am (hb);have n2_:=Am (hi);clear BK150;clear HB;clear HI152;have BK150:=n0_;have HB:=n1_;have HI152:=n2_;clear n0_ n1_ n2_;(try clear hb);(try clear hb2);(try clear hk);(try clear hi))|(go_at_call 46;(with_reducible refine (spec_l4G_high.calls gb152 l0_0 l0_1 t162 t163 t164 t165 t166 t167 ([] : List Int) x13_2 t168 t169 t170 t171 t172 t173 t174 w _ ?side1 ?side2 A23.out).mono ?_);(case side1 => repeat (first|(with_reducible first|exact HI152.out|apply IsS72.alloc|apply IsS72.drewN|apply IsS72.drew|apply IsS72.set_2|apply IsS72.set_3|apply IsS72.set_4|apply IsS72.set_5|apply IsS72.set_6|apply IsS72.set_7|refine IsS72.far ?_ NB152_150.out _)|exact HI152.out));(case side2 => repeat (first|(with_reducible first|exact HB.out|apply bA|apply bN|apply bD|refine bS ?_ (IsS72.ge HI152.out)|refine bS ?_ GE150.out)|exact HB.out));rintro e w26 ⟨rfl,hi,hb,hk⟩;have n0_:=Am (KeepBut.blk hk (g':=gb150) (o:=.cells #[.slice A0_0 l0_0.length c0_0,.slice A0_1 l0_1.length c0_1,.int .i64 a0_2,.int .i64 a0_3,.int .i64 a0_4] 26 (0,0)) (by (with_reducible repeat (first|refine kN ?_ _|refine kD ?_|refine kA ?_ _));exact BK150.out) NB150_152.out (by simp));have n1_:=Am (hb);have n2_:=Am (hi);clear BK150;clear HB;clear HI152;have BK150:=n0_;have HB:=n1_;have HI152:=n2_;clear n0_ n1_ n2_;(try clear hb);(try clear hb2);(try clear hk);(try clear hi)))
           go_ret
           exact ⟨by first|rfl|(simp [errW_none,errW_some] <;> rfl)|(simp [*,errW_none,errW_some] <;> rfl),by repeat (first|(with_reducible first|exact HB.out|apply bA|apply bN|apply bD|refine bS ?_ (IsS72.ge HI152.out)|refine bS ?_ GE150.out)|exact HB.out)⟩
          ·rw [if_neg c24] at H
           have c24b0 : decide (t168 < (rd l4 x35_2)) = false:=decide_eq_false c24
           clear c24
           replace H:=Option.bind_eq_some_iff.mp H
           obtain ⟨t175,A270,H⟩:=H
           replace H : (if t175 = true then (spec_RunOk.l0 k2 a2 (wrap64 (x12_2 + (rd l4 x35_2))) (rd l4 x35_2) l4 (l4.length : Int) (wrap64 (x35_2 + 1)) l0_0 l0_1 a0_2 a0_3 a0_4 l0_0 l0_1 t169 t170 t171 t172 t173 t174) else (some false)) = some r:=H
           have A27:=Am A270
           clear A270
           by_cases c28 : t175 = true
           ·subst c28
            have H1 : (spec_RunOk.l0 k2 a2 (wrap64 (x12_2 + (rd l4 x35_2))) (rd l4 x35_2) l4 (l4.length : Int) (wrap64 (x35_2 + 1)) l0_0 l0_1 a0_2 a0_3 a0_4 l0_0 l0_1 t169 t170 t171 t172 t173 t174) = some r:=by rw [if_pos rfl] at H;exact H
            clear H
            have H:=H1
            clear H1
            have H':=Am H
            clear H
            have p160 : 0 ≤ (x35_2 : Int):=of_decide_eq_true (by first|(with_reducible assumption)|assumption)
            have q160 : x35_2 < (l4.length : Int):=of_decide_eq_true (by first|(with_reducible assumption)|assumption)
            obtain ⟨ad160,e160,hx160_0⟩:=Kd.at_int HR4.out x35_2 p160 q160
            cases e160
            replace hx160_0:=(HB.out.cell (World.block_lt_of_cell? w _ hx160_0)).trans hx160_0
            replace p160:=eq_true p160
            replace q160:=eq_true q160
            go_wp2_with (first|((with_reducible refine gate_callee (f:=45) rfl ?_);refine goesL_ (some 43) rfl rfl Try.func45 (by kernel_rfl) rfl #[.pointer (some ⟨gb152,0,none⟩),.int .i64 x12_2,.int .i64 x13_2] rfl (by (try simp only [List.map_toArray,List.map_cons,List.map_nil]);first|done|rfl|(simp only [List.length_drop,List.length_take];rfl)) ?_;(with_reducible refine (spec_l4G_low.calls k2 gb152 l0_0 l0_1 x153002_2 x153003_2 x153004_2 x153005_2 x153006_2 x153007_2 ([] : List Int) x12_2 x13_2 t161 t162 t163 t164 t165 t166 t167 w _ ?side1 ?side2 A20.out).mono ?_);(case side1 => repeat (first|(with_reducible first|exact HI152.out|apply IsS72.alloc|apply IsS72.drewN|apply IsS72.drew|apply IsS72.set_2|apply IsS72.set_3|apply IsS72.set_4|apply IsS72.set_5|apply IsS72.set_6|apply IsS72.set_7|refine IsS72.far ?_ NB152_150.out _)|exact HI152.out));(case side2 => repeat (first|(with_reducible first|exact HB.out|apply bA|apply bN|apply bD|refine bS ?_ (IsS72.ge HI152.out)|refine bS ?_ GE150.out)|exact HB.out));rintro e w29 ⟨rfl,hi,hb,hk⟩;refine ⟨_,rfl,?_⟩;have n0_:=Am (KeepBut.blk hk (g':=gb150) (o:=.cells #[.slice A0_0 l0_0.length c0_0,.slice A0_1 l0_1.length c0_1,.int .i64 a0_2,.int .i64 a0_3,.int .i64 a0_4] 26 (0,0)) (by (with_reducible repeat (first|refine kN ?_ _|refine kD ?_|refine kA ?_ _));exact BK150.out) NB150_152.out (by simp));have n1_:=Am (hb);have n2_:=Am (hi);clear BK150;clear HB;clear HI152;have BK150:=n0_;have HB:=n1_;have HI152:=n2_;clear n0_ n1_ n2_;(try clear hb);(try clear hb2);(try clear hk);(try clear hi))|(go_at_call 46;(with_reducible refine (spec_l4G_high.calls gb152 l0_0 l0_1 t162 t163 t164 t165 t166 t167 ([] : List Int) x13_2 t168 t169 t170 t171 t172 t173 t174 w _ ?side1 ?side2 A23.out).mono ?_);(case side1 => repeat (first|(with_reducible first|exact HI152.out|apply IsS72.alloc|apply IsS72.drewN|apply IsS72.drew|apply IsS72.set_2|apply IsS72.set_3|apply IsS72.set_4|apply IsS72.set_5|apply IsS72.set_6|apply IsS72.set_7|refine IsS72.far ?_ NB152_150.out _)|exact HI152.out));(case side2 => repeat (first|(with_reducible first|exact HB.out|apply bA|apply bN|apply bD|refine bS ?_ (IsS72.ge HI152.out)|refine bS ?_ GE150.out)|exact HB.out));rintro e w30 ⟨rfl,hi,hb,hk⟩;have n0_:=Am (KeepBut.blk hk (g':=gb150) (o:=.cells #[.slice A0_0 l0_0.length c0_0,.slice A0_1 l0_1.length c0_1,.int .i64 a0_2,.int .i64 a0_3,.int .i64 a0_4] 26 (0,0)) (by (with_reducible repeat (first|refine kN ?_ _|refine kD ?_|refine kA ?_ _));exact BK150.out) NB150_152.out (by simp));have n1_:=Am (hb);have n2_:=Am (hi);clear BK150;clear HB;clear HI152;have BK150:=n0_;have HB:=n1_;have HI152:=n2_;clear n0_ n1_ n2_;(try clear hb);(try clear hb2);(try clear hk);(try clear hi);have hnb31:=NB150_152.out;have hnc31:=NB152_150.out;have hcz32_0 : w30.cell? ⟨gb150,0,none⟩ = some (.slice A0_0 l0_0.length c0_0):=(kC BK150.out 0).trans rfl;have hcz32_1 : w30.cell? ⟨gb150,1,none⟩ = some (.slice A0_1 l0_1.length c0_1):=(kC BK150.out 1).trans rfl;have hcz32_2 : w30.cell? ⟨gb150,2,none⟩ = some (.int .i64 a0_2):=(kC BK150.out 2).trans rfl;have hcz32_3 : w30.cell? ⟨gb150,3,none⟩ = some (.int .i64 a0_3):=(kC BK150.out 3).trans rfl;have hcz32_4 : w30.cell? ⟨gb150,4,none⟩ = some (.int .i64 a0_4):=(kC BK150.out 4).trans rfl;have hfz32_0:=kF BK150.out 0;have hfz32_1:=kF BK150.out 1;have hfz32_2:=kF BK150.out 2;have hfz32_3:=kF BK150.out 3;have hfz32_4:=kF BK150.out 4)|(go_at_call 47;(with_reducible refine (spec_l3may.calls k2 _ _ l0_0 _ _ l0_1 a0_2 a0_3 a0_4 (wrap64 (a2 + x12_2)) (rd l4 x35_2) true _ ?side1 ?side2 ?side3 ?side4 A27.out).mono ?_);(case side1 => repeat (first|exact (Kd.C_below HR0_0.out HB.out)|(with_reducible refine Kd.C_alloc ?_ _)|(with_reducible refine Kd.C_drewN ?_ _)|(with_reducible refine Kd.C_drew ?_)));(case side2 => exact HC0_0.out);(case side3 => repeat (first|exact (Kd.C_below HR0_1.out HB.out)|(with_reducible refine Kd.C_alloc ?_ _)|(with_reducible refine Kd.C_drewN ?_ _)|(with_reducible refine Kd.C_drew ?_)));(case side4 => exact HC0_1.out);rintro e w33 ⟨rfl,hb⟩;have n0_:=Am (blk_below (g:=gb150) (o:=.cells #[.slice A0_0 l0_0.length c0_0,.slice A0_1 l0_1.length c0_1,.int .i64 a0_2,.int .i64 a0_3,.int .i64 a0_4] 26 (0,0)) (by (with_reducible repeat (first|refine kN ?_ _|refine kD ?_|refine kA ?_ _));exact BK150.out) hb);have n1_:=Am (IsS72.below (by repeat (first|(with_reducible first|exact HI152.out|apply IsS72.alloc|apply IsS72.drewN|apply IsS72.drew|apply IsS72.set_2|apply IsS72.set_3|apply IsS72.set_4|apply IsS72.set_5|apply IsS72.set_6|apply IsS72.set_7|refine IsS72.far ?_ NB152_150.out _)|exact HI152.out)) hb);have n2_:=Am (below_step (by repeat (first|(with_reducible first|exact HB.out|apply bA|apply bN|apply bD|refine bS ?_ (IsS72.ge HI152.out)|refine bS ?_ GE150.out)|exact HB.out)) hb);clear BK150;clear HI152;clear HB;have BK150:=n0_;have HI152:=n1_;have HB:=n2_;clear n0_ n1_ n2_;(try clear hb);(try clear hb2);(try clear hk);(try clear hi)))
            go_roundg k2
            case measure => have:=HJ5.out;have:=HK2.out;omega
            case rel => exact ⟨(wrap64 (x12_2 + (rd l4 x35_2))),(rd l4 x35_2),(wrap64 (x35_2 + 1)),(t169),(t170),(t171),(t172),(t173),(t174),(by first|rfl|(simp;done)|(simp [*];done)),(by first|rfl|(simp;done)|(simp [*];done)),(by first|rfl|(simp;done)|(simp [*];done)),H',⟨by have:=HJ5.out;have:=HK2.out;omega⟩,⟨by (with_reducible repeat (first|refine kN ?_ _|refine kD ?_|refine kA ?_ _));exact BK150.out⟩,⟨by repeat (first|(with_reducible first|exact HI152.out|apply IsS72.alloc|apply IsS72.drewN|apply IsS72.drew|apply IsS72.set_2|apply IsS72.set_3|apply IsS72.set_4|apply IsS72.set_5|apply IsS72.set_6|apply IsS72.set_7|refine IsS72.far ?_ NB152_150.out _)|exact HI152.out)⟩,⟨by repeat (first|(with_reducible first|exact HB.out|apply bA|apply bN|apply bD|refine bS ?_ (IsS72.ge HI152.out)|refine bS ?_ GE150.out)|exact HB.out)⟩⟩
           ·replace c28:=Bool.eq_false_iff.mpr c28
            subst c28
            have H1 : (some false) = some r:=by rw [if_neg (show ¬ (false = true) by decide)] at H;exact H
            clear H
            have H:=H1
            clear H1
            obtain rfl:=Option.some.inj H
            have p160 : 0 ≤ (x35_2 : Int):=of_decide_eq_true (by first|(with_reducible assumption)|assumption)
            have q160 : x35_2 < (l4.length : Int):=of_decide_eq_true (by first|(with_reducible assumption)|assumption)
            obtain ⟨ad160,e160,hx160_0⟩:=Kd.at_int HR4.out x35_2 p160 q160
            cases e160
            replace hx160_0:=(HB.out.cell (World.block_lt_of_cell? w _ hx160_0)).trans hx160_0
            replace p160:=eq_true p160
            replace q160:=eq_true q160
            go_wp2_with (first|((with_reducible refine gate_callee (f:=45) rfl ?_);refine goesL_ (some 43) rfl rfl Try.func45 (by kernel_rfl) rfl #[.pointer (some ⟨gb152,0,none⟩),.int .i64 x12_2,.int .i64 x13_2] rfl (by (try simp only [List.map_toArray,List.map_cons,List.map_nil]);first|done|rfl|(simp only [List.length_drop,List.length_take];rfl)) ?_;(with_reducible refine (spec_l4G_low.calls k2 gb152 l0_0 l0_1 x153002_2 x153003_2 x153004_2 x153005_2 x153006_2 x153007_2 ([] : List Int) x12_2 x13_2 t161 t162 t163 t164 t165 t166 t167 w _ ?side1 ?side2 A20.out).mono ?_);(case side1 => repeat (first|(with_reducible first|exact HI152.out|apply IsS72.alloc|apply IsS72.drewN|apply IsS72.drew|apply IsS72.set_2|apply IsS72.set_3|apply IsS72.set_4|apply IsS72.set_5|apply IsS72.set_6|apply IsS72.set_7|refine IsS72.far ?_ NB152_150.out _)|exact HI152.out));(case side2 => repeat (first|(with_reducible first|exact HB.out|apply bA|apply bN|apply bD|refine bS ?_ (IsS72.ge HI152.out)|refine bS ?_ GE150.out)|exact HB.out));rintro e w34 ⟨rfl,hi,hb,hk⟩;refine ⟨_,rfl,?_⟩;have n0_:=Am (KeepBut.blk hk (g':=gb150) (o:=.cells #[.slice A0_0 l0_0.length c0_0,.slice A0_1 l0_1.length c0_1,.int .i64 a0_2,.int .i64 a0_3,.int .i64 a0_4] 26 (0,0)) (by (with_reducible repeat (first|refine kN ?_ _|refine kD ?_|refine kA ?_ _));exact BK150.out) NB150_152.out (by simp));have n1_:=Am (hb);have n2_:=Am (hi);clear BK150;clear HB;clear HI152;have BK150:=n0_;have HB:=n1_;have HI152:=n2_;clear n0_ n1_ n2_;(try clear hb);(try clear hb2);(try clear hk);(try clear hi))|(go_at_call 46;(with_reducible refine (spec_l4G_high.calls gb152 l0_0 l0_1 t162 t163 t164 t165 t166 t167 ([] : List Int) x13_2 t168 t169 t170 t171 t172 t173 t174 w _ ?side1 ?side2 A23.out).mono ?_);(case side1 => repeat (first|(with_reducible first|exact HI152.out|apply IsS72.alloc|apply IsS72.drewN|apply IsS72.drew|apply IsS72.set_2|apply IsS72.set_3|apply IsS72.set_4|apply IsS72.set_5|apply IsS72.set_6|apply IsS72.set_7|refine IsS72.far ?_ NB152_150.out _)|exact HI152.out));(case side2 => repeat (first|(with_reducible first|exact HB.out|apply bA|apply bN|apply bD|refine bS ?_ (IsS72.ge HI152.out)|refine bS ?_ GE150.out)|exact HB.out));rintro e w35 ⟨rfl,hi,hb,hk⟩;have n0_:=Am (KeepBut.blk hk (g':=gb150) (o:=.cells #[.slice A0_0 l0_0.length c0_0,.slice A0_1 l0_1.length c0_1,.int .i64 a0_2,.int .i64 a0_3,.int .i64 a0_4] 26 (0,0)) (by (with_reducible repeat (first|refine kN ?_ _|refine kD ?_|refine kA ?_ _));exact BK150.out) NB150_152.out (by simp));have n1_:=Am (hb);have n2_:=Am (hi);clear BK150;clear HB;clear HI152;have BK150:=n0_;have HB:=n1_;have HI152:=n2_;clear n0_ n1_ n2_;(try clear hb);(try clear hb2);(try clear hk);(try clear hi);have hnb36:=NB150_152.out;have hnc36:=NB152_150.out;have hcz37_0 : w35.cell? ⟨gb150,0,none⟩ = some (.slice A0_0 l0_0.length c0_0):=(kC BK150.out 0).trans rfl;have hcz37_1 : w35.cell? ⟨gb150,1,none⟩ = some (.slice A0_1 l0_1.length c0_1):=(kC BK150.out 1).trans rfl;have hcz37_2 : w35.cell? ⟨gb150,2,none⟩ = some (.int .i64 a0_2):=(kC BK150.out 2).trans rfl;have hcz37_3 : w35.cell? ⟨gb150,3,none⟩ = some (.int .i64 a0_3):=(kC BK150.out 3).trans rfl;have hcz37_4 : w35.cell? ⟨gb150,4,none⟩ = some (.int .i64 a0_4):=(kC BK150.out 4).trans rfl;have hfz37_0:=kF BK150.out 0;have hfz37_1:=kF BK150.out 1;have hfz37_2:=kF BK150.out 2;have hfz37_3:=kF BK150.out 3;have hfz37_4:=kF BK150.out 4)|(go_at_call 47;(with_reducible refine (spec_l3may.calls k2 _ _ l0_0 _ _ l0_1 a0_2 a0_3 a0_4 (wrap64 (a2 + x12_2)) (rd l4 x35_2) false _ ?side1 ?side2 ?side3 ?side4 A27.out).mono ?_);(case side1 => repeat (first|exact (Kd.C_below HR0_0.out HB.out)|(with_reducible refine Kd.C_alloc ?_ _)|(with_reducible refine Kd.C_drewN ?_ _)|(with_reducible refine Kd.C_drew ?_)));(case side2 => exact HC0_0.out);(case side3 => repeat (first|exact (Kd.C_below HR0_1.out HB.out)|(with_reducible refine Kd.C_alloc ?_ _)|(with_reducible refine Kd.C_drewN ?_ _)|(with_reducible refine Kd.C_drew ?_)));(case side4 => exact HC0_1.out);rintro e w38 ⟨rfl,hb⟩;have n0_:=Am (blk_below (g:=gb150) (o:=.cells #[.slice A0_0 l0_0.length c0_0,.slice A0_1 l0_1.length c0_1,.int .i64 a0_2,.int .i64 a0_3,.int .i64 a0_4] 26 (0,0)) (by (with_reducible repeat (first|refine kN ?_ _|refine kD ?_|refine kA ?_ _));exact BK150.out) hb);have n1_:=Am (IsS72.below (by repeat (first|(with_reducible first|exact HI152.out|apply IsS72.alloc|apply IsS72.drewN|apply IsS72.drew|apply IsS72.set_2|apply IsS72.set_3|apply IsS72.set_4|apply IsS72.set_5|apply IsS72.set_6|apply IsS72.set_7|refine IsS72.far ?_ NB152_150.out _)|exact HI152.out)) hb);have n2_:=Am (below_step (by repeat (first|(with_reducible first|exact HB.out|apply bA|apply bN|apply bD|refine bS ?_ (IsS72.ge HI152.out)|refine bS ?_ GE150.out)|exact HB.out)) hb);clear BK150;clear HI152;clear HB;have BK150:=n0_;have HI152:=n1_;have HB:=n2_;clear n0_ n1_ n2_;(try clear hb);(try clear hb2);(try clear hk);(try clear hi)))
            go_ret
            exact ⟨by first|rfl|(simp [errW_none,errW_some] <;> rfl)|(simp [*,errW_none,errW_some] <;> rfl),by repeat (first|(with_reducible first|exact HB.out|apply bA|apply bN|apply bD|refine bS ?_ (IsS72.ge HI152.out)|refine bS ?_ GE150.out)|exact HB.out)⟩
        ·rw [if_neg c19] at H
         exact absurd H (by simp)
       ·rw [if_neg c18] at H
        exact absurd H (by simp)
      ·rw [if_neg c17] at H
       have c17b0 : decide (x35_2 < (l4.length : Int)) = false:=decide_eq_false c17
       clear c17
       replace H:=Option.bind_eq_some_iff.mp H
       obtain ⟨⟨t153,t154,t155,t156,t157,t158,t159⟩,A390,H⟩:=H
       replace H : (some t153) = some r:=H
       have A39:=Am A390
       clear A390
       obtain rfl:=Option.some.inj H
       go_wp2_with (first|((with_reducible refine gate_callee (f:=48) rfl ?_);refine goesL_ (some 69) rfl rfl Try.func48 (by kernel_rfl) rfl #[.pointer (some ⟨gb152,0,none⟩),.int .i64 x12_2,.int .i64 x13_2] rfl (by (try simp only [List.map_toArray,List.map_cons,List.map_nil]);first|done|rfl|(simp only [List.length_drop,List.length_take];rfl)) ?_;(with_reducible refine (spec_l4G_home.calls gb152 l0_0 l0_1 x153002_2 x153003_2 x153004_2 x153005_2 x153006_2 x153007_2 ([] : List Int) x12_2 x13_2 t153 t154 t155 t156 t157 t158 t159 w _ ?side1 ?side2 A39.out).mono ?_);(case side1 => repeat (first|(with_reducible first|exact HI152.out|apply IsS72.alloc|apply IsS72.drewN|apply IsS72.drew|apply IsS72.set_2|apply IsS72.set_3|apply IsS72.set_4|apply IsS72.set_5|apply IsS72.set_6|apply IsS72.set_7|refine IsS72.far ?_ NB152_150.out _)|exact HI152.out));(case side2 => repeat (first|(with_reducible first|exact HB.out|apply bA|apply bN|apply bD|refine bS ?_ (IsS72.ge HI152.out)|refine bS ?_ GE150.out)|exact HB.out));rintro e w40 ⟨rfl,hi,hb,hk⟩;refine ⟨_,rfl,?_⟩;have n0_:=Am (KeepBut.blk hk (g':=gb150) (o:=.cells #[.slice A0_0 l0_0.length c0_0,.slice A0_1 l0_1.length c0_1,.int .i64 a0_2,.int .i64 a0_3,.int .i64 a0_4] 26 (0,0)) (by (with_reducible repeat (first|refine kN ?_ _|refine kD ?_|refine kA ?_ _));exact BK150.out) NB150_152.out (by simp));have n1_:=Am (hb);have n2_:=Am (hi);clear BK150;clear HB;clear HI152;have BK150:=n0_;have HB:=n1_;have HI152:=n2_;clear n0_ n1_ n2_;(try clear hb);(try clear hb2);(try clear hk);(try clear hi)))
       go_ret
       exact ⟨by first|rfl|(simp [errW_none,errW_some] <;> rfl)|(simp [*,errW_none,errW_some] <;> rfl),by repeat (first|(with_reducible first|exact HB.out|apply bA|apply bN|apply bD|refine bS ?_ (IsS72.ge HI152.out)|refine bS ?_ GE150.out)|exact HB.out)⟩

end Go.Proofs.Ytanjbdgmnecacaa.PE
