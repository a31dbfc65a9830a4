-- Written by a program of this session (wip/print/myprint.py) over the kit's print, with contracts of its own; not a text of print.sh's.
import Derived.Test.YtgakkndbcilclaaPAx0
import Derived.Test.YtgakkndbcilclaaPAx20
import Derived.Test.YtgakkndbcilclaaPAx25
import Derived.Test.YtgakkndbcilclaaPAx30
namespace Go.Proofs.Ytgakkndbcilclaa.PA
open Go.RowKit Go.Proofs.YtgakkndbcilclaaW.PrintWords Go.Proofs.YtgakkndbcilclaaW.PrintLast Go.Proofs.YtgakkndbcilclaaW.PrintMore
attribute [local go_sem] max2_int min2_int max_two min_two   -- for this text's walks alone
set_option linter.unusedVariables false
set_option linter.unusedSimpArgs false

/-! ### spec_l3safe: function 77 -/
def spec_l3safe.l0 : Nat → Int → Int → Int → List (S71) → List (S75) → Int → Int → Int → Option (Bool)
 | 0,_,_,_,_,_,_,_,_ => none
 | k + 1,x1,x2,x7,x359000,x359001,x359002,x359003,x359004 => (spec_l3may.f k x359000 x359001 x359002 x359003 x359004 x1 x2).bind fun t359 => (if t359 = true then (if x2 = 0 then (some true) else ((spec_l2rate.f k x359000 x359001 x359002 x359003 x359004 x1).bind fun t360 => (if x7 ≥ x359004 then ((spec_l2less.f x2 t360).bind fun t361 => (spec_l3safe.l0 k (wrap64 (x1 + x2)) t361 (wrap64 (x7 + 1)) x359000 x359001 x359002 x359003 x359004)) else (spec_l3safe.l0 k (wrap64 (x1 + x2)) x2 (wrap64 (x7 + 1)) x359000 x359001 x359002 x359003 x359004)))) else (some false))
def spec_l3safe.f (k : Nat) (l0_0 : List (S71)) (l0_1 : List (S75)) (a0_2 : Int) (a0_3 : Int) (a0_4 : Int) (a1 : Int) (a2 : Int) : Option (Bool):=spec_l3safe.l0 k a1 a2 0 l0_0 l0_1 a0_2 a0_3 a0_4
theorem spec_l3safe.mono_l : ∀ k,(∀ y0 y1 y2 y3 y4 y5 y6 y7,LeO (spec_l3safe.l0 k y0 y1 y2 y3 y4 y5 y6 y7) (spec_l3safe.l0 (k + 1) y0 y1 y2 y3 y4 y5 y6 y7))
 | 0 => fun _ _ _ _ _ _ _ _ r h => by simp [spec_l3safe.l0] at h
 | k + 1 => by
  have ih0:=spec_l3safe.mono_l k
  ·intro y0 y1 y2 y3 y4 y5 y6 y7
   unfold spec_l3safe.l0
   repeat' first
   | (with_reducible exact ih0 _ _ _ _ _ _ _ _)
   | (with_reducible exact spec_l2rate.mono _ _ _ _ _ _ _)
   | (with_reducible exact spec_l3may.mono _ _ _ _ _ _ _ _)
   | (with_reducible exact LeO.refl _)
   | (with_reducible exact LeO.none _)
   | (with_reducible refine LeO.ite ?_ ?_)
   | (with_reducible refine LeO.bind ?_ (fun _ => ?_))
   | exact ih0 _ _ _ _ _ _ _ _
   | exact spec_l2rate.mono _ _ _ _ _ _ _
   | exact spec_l3may.mono _ _ _ _ _ _ _ _
   | exact LeO.none _
   | refine LeO.ite ?_ ?_
   | refine LeO.bind ?_ (fun _ => ?_)
theorem spec_l3safe.mono : ∀ a0 a1 a2 a3 a4 a5 a6 k,LeO (spec_l3safe.f k a0 a1 a2 a3 a4 a5 a6) (spec_l3safe.f (k + 1) a0 a1 a2 a3 a4 a5 a6):=by
 intro a0 a1 a2 a3 a4 a5 a6 k
 have ih0:=spec_l3safe.mono_l k
 unfold spec_l3safe.f
 repeat' first
   | (with_reducible exact ih0 _ _ _ _ _ _ _ _)
   | (with_reducible exact spec_l2rate.mono _ _ _ _ _ _ _)
   | (with_reducible exact spec_l3may.mono _ _ _ _ _ _ _ _)
   | (with_reducible exact LeO.refl _)
   | (with_reducible exact LeO.none _)
   | (with_reducible refine LeO.ite ?_ ?_)
   | (with_reducible refine LeO.bind ?_ (fun _ => ?_))
   | exact ih0 _ _ _ _ _ _ _ _
   | exact spec_l2rate.mono _ _ _ _ _ _ _
   | exact spec_l3may.mono _ _ _ _ _ _ _ _
   | exact LeO.none _
   | refine LeO.ite ?_ ?_
   | refine LeO.bind ?_ (fun _ => ?_)
set_option maxHeartbeats 8000000 in
set_option maxRecDepth 100000 in
theorem spec_l3safe.calls (k : Nat) (A0_0 : Option Addr) (c0_0 : Nat) (l0_0 : List (S71)) (A0_1 : Option Addr) (c0_1 : Nat) (l0_1 : List (S75)) (a0_2 : Int) (a0_3 : Int) (a0_4 : Int) (a1 : Int) (a2 : Int) (r : Bool) (w : World) (hr0_0 : Kd.C k71 w A0_0 l0_0.length l0_0) (hc0_0 : l0_0.length ≤ c0_0) (hr0_1 : Kd.C k75 w A0_1 l0_1.length l0_1) (hc0_1 : l0_1.length ≤ c0_1) (h : spec_l3safe.f k l0_0 l0_1 a0_2 a0_3 a0_4 a1 a2 = some r) :
  Calls Try.prog 77 #[.agg #[.slice A0_0 l0_0.length c0_0,.slice A0_1 l0_1.length c0_1,.int .i64 a0_2,.int .i64 a0_3,.int .i64 a0_4],.int .i64 a1,.int .i64 a2] w fun e w' => e = .returned (.bool r)∧Below w.heap.size w w':=by
 have hu31:=Try.underlying31
 have HR0_0:=Am hr0_0
 have HC0_0:=Am hc0_0
 clear hr0_0 hc0_0
 have HR0_1:=Am hr0_1
 have HC0_1:=Am hc0_1
 clear hr0_1 hc0_1
 have HB:=Am (Below.refl w.heap.size w)
 have H : (spec_l3safe.l0 k a1 a2 0 l0_0 l0_1 a0_2 a0_3 a0_4) = some r:=h
 clear h
 have H':=Am H
 clear H
 go_enter Try.func77,Try.ntmps77
 go_wp2_with (first|((with_reducible refine gate_dst (N:=3) rfl ?_);refine box_event ?hg (N:=3) ?hd (cs:=#[.slice A0_0 l0_0.length c0_0,.slice A0_1 l0_1.length c0_1,.int .i64 a0_2,.int .i64 a0_3,.int .i64 a0_4]) (t:=31) ?hr ?_;(case hd => rfl);(case hg => rfl);(case hr => first|(go_simp;done)|(go_simp;rfl));intro gb358 hg w4 hbox hb;have n0_:=Am (below_step (by repeat (first|(with_reducible first|exact HB.out|apply bA|apply bN|apply bD)|exact HB.out)) hb);have n1_:=Am (hbox);have n2_:=Am ((by rw [hg];exact (below_size (by repeat (first|(with_reducible first|exact HB.out|apply bA|apply bN|apply bD)|exact HB.out))) : w.heap.size ≤ gb358));have n3_:=Am ((by rw [hg];exact (below_size (by repeat (first|(with_reducible first|exact HB.out|apply bA|apply bN|apply bD)|exact HB.out))) : w.heap.size ≤ gb358));clear HB;have HB:=n0_;have BK358:=n1_;have GW358:=n2_;have GE358:=n3_;clear n0_ n1_ n2_ n3_;clear hb hbox hg))
 go_loopg [1,2,7] k (fun kq v1 v2 v7 w' => ∃ (x1_1 : Int) (x2_1 : Int) (x7_1 : Int),v1 = .int .i64 x1_1∧v2 = .int .i64 x2_1∧v7 = .int .i64 x7_1∧As (spec_l3safe.l0 kq x1_1 x2_1 x7_1 l0_0 l0_1 a0_2 a0_3 a0_4 = some r)∧As (kq ≤ k)∧As (w'.heap[gb358]? = some (.cells #[(.slice A0_0 l0_0.length c0_0),(.slice A0_1 l0_1.length c0_1),.int .i64 a0_2,.int .i64 a0_3,.int .i64 a0_4] 31 (0,0)))∧As (Below w.heap.size w w'))
 case atStart => exact ⟨(a1),(a2),(0),(by first|rfl|(simp;done)|(simp [*];done)),(by first|rfl|(simp;done)|(simp [*];done)),(by first|rfl|(simp;done)|(simp [*];done)),H',⟨Nat.le_refl _⟩,⟨by (with_reducible repeat (first|refine kN ?_ _|refine kD ?_|refine kA ?_ _));exact BK358.out⟩,⟨by repeat (first|(with_reducible first|exact HB.out|apply bA|apply bN|apply bD|refine bS ?_ GE358.out)|exact HB.out)⟩⟩
 case round =>
  clear H'
  try clear p2
  obtain ⟨x1_1,x2_1,x7_1,rfl,rfl,rfl,HA,HK1,BK358,HB⟩:=hrel
  cases gk with
  | zero => exact absurd HA.out (by simp [spec_l3safe.l0])
  | succ k1 =>
   have H:=HA.out
   clear HA
   simp only [spec_l3safe.l0] at H
   replace H:=Option.bind_eq_some_iff.mp H
   obtain ⟨t359,A50,H⟩:=H
   replace H : (if t359 = true then (if x2_1 = 0 then (some true) else ((spec_l2rate.f k1 l0_0 l0_1 a0_2 a0_3 a0_4 x1_1).bind fun t360 => (if x7_1 ≥ a0_4 then ((spec_l2less.f x2_1 t360).bind fun t361 => (spec_l3safe.l0 k1 (wrap64 (x1_1 + x2_1)) t361 (wrap64 (x7_1 + 1)) l0_0 l0_1 a0_2 a0_3 a0_4)) else (spec_l3safe.l0 k1 (wrap64 (x1_1 + x2_1)) x2_1 (wrap64 (x7_1 + 1)) l0_0 l0_1 a0_2 a0_3 a0_4)))) else (some false)) = some r:=H
   have A5:=Am A50
   clear A50
   by_cases c6 : t359 = true
   ·subst c6
    have H1 : (if x2_1 = 0 then (some true) else ((spec_l2rate.f k1 l0_0 l0_1 a0_2 a0_3 a0_4 x1_1).bind fun t360 => (if x7_1 ≥ a0_4 then ((spec_l2less.f x2_1 t360).bind fun t361 => (spec_l3safe.l0 k1 (wrap64 (x1_1 + x2_1)) t361 (wrap64 (x7_1 + 1)) l0_0 l0_1 a0_2 a0_3 a0_4)) else (spec_l3safe.l0 k1 (wrap64 (x1_1 + x2_1)) x2_1 (wrap64 (x7_1 + 1)) l0_0 l0_1 a0_2 a0_3 a0_4)))) = some r:=by rw [if_pos rfl] at H;exact H
    clear H
    have H:=H1
    clear H1
    by_cases c7 : x2_1 = 0
    ·rw [if_pos c7] at H
     have c7b0 : (x2_1 == 0) = true:=beq_iff_eq.mpr c7
     have c7b1 : (x2_1 != 0) = false:=bne_eq_false_iff_eq.mpr c7
     clear c7
     obtain rfl:=Option.some.inj H
     have hcz8_0 : wr.cell? ⟨gb358,0,none⟩ = some (.slice A0_0 l0_0.length c0_0):=(kC BK358.out 0).trans rfl
     have hcz8_1 : wr.cell? ⟨gb358,1,none⟩ = some (.slice A0_1 l0_1.length c0_1):=(kC BK358.out 1).trans rfl
     have hcz8_2 : wr.cell? ⟨gb358,2,none⟩ = some (.int .i64 a0_2):=(kC BK358.out 2).trans rfl
     have hcz8_3 : wr.cell? ⟨gb358,3,none⟩ = some (.int .i64 a0_3):=(kC BK358.out 3).trans rfl
     have hcz8_4 : wr.cell? ⟨gb358,4,none⟩ = some (.int .i64 a0_4):=(kC BK358.out 4).trans rfl
     have hfz8_0:=kF BK358.out 0
     have hfz8_1:=kF BK358.out 1
     have hfz8_2:=kF BK358.out 2
     have hfz8_3:=kF BK358.out 3
     have hfz8_4:=kF BK358.out 4
     go_wp2_with (first|((with_reducible refine gate_callee (f:=82) rfl ?_);refine goesL_ (some 14) rfl rfl Try.func82 (by kernel_rfl) rfl #[.agg #[.slice A0_0 l0_0.length c0_0,.slice A0_1 l0_1.length c0_1,.int .i64 a0_2,.int .i64 a0_3,.int .i64 a0_4],.int .i64 x1_1,.int .i64 x2_1] rfl (by (try simp only [List.map_toArray,List.map_cons,List.map_nil]);first|done|rfl|(simp only [List.length_drop,List.length_take];rfl)) ?_;(with_reducible refine (spec_l3may.calls k1 _ _ l0_0 _ _ l0_1 a0_2 a0_3 a0_4 x1_1 x2_1 true _ ?side1 ?side2 ?side3 ?side4 A5.out).mono ?_);(case side1 => repeat (first|exact (Kd.C_below HR0_0.out HB.out)|(with_reducible refine Kd.C_alloc ?_ _)|(with_reducible refine Kd.C_drewN ?_ _)|(with_reducible refine Kd.C_drew ?_)));(case side2 => exact HC0_0.out);(case side3 => repeat (first|exact (Kd.C_below HR0_1.out HB.out)|(with_reducible refine Kd.C_alloc ?_ _)|(with_reducible refine Kd.C_drewN ?_ _)|(with_reducible refine Kd.C_drew ?_)));(case side4 => exact HC0_1.out);rintro e w9 ⟨rfl,hb⟩;refine ⟨_,rfl,?_⟩;have n0_:=Am (blk_below (g:=gb358) (o:=.cells #[.slice A0_0 l0_0.length c0_0,.slice A0_1 l0_1.length c0_1,.int .i64 a0_2,.int .i64 a0_3,.int .i64 a0_4] 31 (0,0)) (by (with_reducible repeat (first|refine kN ?_ _|refine kD ?_|refine kA ?_ _));exact BK358.out) hb);have n1_:=Am (below_step (by repeat (first|(with_reducible first|exact HB.out|apply bA|apply bN|apply bD|refine bS ?_ GE358.out)|exact HB.out)) hb);clear BK358;clear HB;have BK358:=n0_;have HB:=n1_;clear n0_ n1_;(try clear hb);(try clear hb2);(try clear hk);(try clear hi)))
     go_ret
     exact ⟨by first|rfl|(simp [errW_none,errW_some] <;> rfl)|(simp [*,errW_none,errW_some] <;> rfl),by repeat (first|(with_reducible first|exact HB.out|apply bA|apply bN|apply bD|refine bS ?_ GE358.out)|exact HB.out)⟩
    ·rw [if_neg c7] at H
     have c7b0 : (x2_1 == 0) = false:=beq_eq_false_iff_ne.mpr c7
     have c7b1 : (x2_1 != 0) = true:=bne_iff_ne.mpr c7
     replace H:=Option.bind_eq_some_iff.mp H
     obtain ⟨t360,A100,H⟩:=H
     replace H : (if x7_1 ≥ a0_4 then ((spec_l2less.f x2_1 t360).bind fun t361 => (spec_l3safe.l0 k1 (wrap64 (x1_1 + x2_1)) t361 (wrap64 (x7_1 + 1)) l0_0 l0_1 a0_2 a0_3 a0_4)) else (spec_l3safe.l0 k1 (wrap64 (x1_1 + x2_1)) x2_1 (wrap64 (x7_1 + 1)) l0_0 l0_1 a0_2 a0_3 a0_4)) = some r:=H
     have A10:=Am A100
     clear A100
     by_cases c11 : x7_1 ≥ a0_4
     ·rw [if_pos c11] at H
      have c11b0 : decide (a0_4 ≤ x7_1) = true:=decide_eq_true c11
      clear c11
      replace H:=Option.bind_eq_some_iff.mp H
      obtain ⟨t361,A120,H⟩:=H
      replace H : (spec_l3safe.l0 k1 (wrap64 (x1_1 + x2_1)) t361 (wrap64 (x7_1 + 1)) l0_0 l0_1 a0_2 a0_3 a0_4) = some r:=H
      have A12:=Am A120
      clear A120
      have H':=Am H
      clear H
      have hcz13_0 : wr.cell? ⟨gb358,0,none⟩ = some (.slice A0_0 l0_0.length c0_0):=(kC BK358.out 0).trans rfl
      have hcz13_1 : wr.cell? ⟨gb358,1,none⟩ = some (.slice A0_1 l0_1.length c0_1):=(kC BK358.out 1).trans rfl
      have hcz13_2 : wr.cell? ⟨gb358,2,none⟩ = some (.int .i64 a0_2):=(kC BK358.out 2).trans rfl
      have hcz13_3 : wr.cell? ⟨gb358,3,none⟩ = some (.int .i64 a0_3):=(kC BK358.out 3).trans rfl
      have hcz13_4 : wr.cell? ⟨gb358,4,none⟩ = some (.int .i64 a0_4):=(kC BK358.out 4).trans rfl
      have hfz13_0:=kF BK358.out 0
      have hfz13_1:=kF BK358.out 1
      have hfz13_2:=kF BK358.out 2
      have hfz13_3:=kF BK358.out 3
      have hfz13_4:=kF BK358.out 4
      go_wp2_with (first|((with_reducible refine gate_callee (f:=82) rfl ?_);refine goesL_ (some 14) rfl rfl Try.func82 (by kernel_rfl) rfl #[.agg #[.slice A0_0 l0_0.length c0_0,.slice A0_1 l0_1.length c0_1,.int .i64 a0_2,.int .i64 a0_3,.int .i64 a0_4],.int .i64 x1_1,.int .i64 x2_1] rfl (by (try simp only [List.map_toArray,List.map_cons,List.map_nil]);first|done|rfl|(simp only [List.length_drop,List.length_take];rfl)) ?_;(with_reducible refine (spec_l3may.calls k1 _ _ l0_0 _ _ l0_1 a0_2 a0_3 a0_4 x1_1 x2_1 true _ ?side1 ?side2 ?side3 ?side4 A5.out).mono ?_);(case side1 => repeat (first|exact (Kd.C_below HR0_0.out HB.out)|(with_reducible refine Kd.C_alloc ?_ _)|(with_reducible refine Kd.C_drewN ?_ _)|(with_reducible refine Kd.C_drew ?_)));(case side2 => exact HC0_0.out);(case side3 => repeat (first|exact (Kd.C_below HR0_1.out HB.out)|(with_reducible refine Kd.C_alloc ?_ _)|(with_reducible refine Kd.C_drewN ?_ _)|(with_reducible refine Kd.C_drew ?_)));(case side4 => exact HC0_1.out);rintro e w14 ⟨rfl,hb⟩;refine ⟨_,rfl,?_⟩;have n0_:=Am (blk_below (g:=gb358) (o:=.cells #[.slice A0_0 l0_0.length c0_0,.slice A0_1 l0_1.length c0_1,.int .i64 a0_2,.int .i64 a0_3,.int .i64 a0_4] 31 (0,0)) (by (with_reducible repeat (first|refine kN ?_ _|refine kD ?_|refine kA ?_ _));exact BK358.out) hb);have n1_:=Am (below_step (by repeat (first|(with_reducible first|exact HB.out|apply bA|apply bN|apply bD|refine bS ?_ GE358.out)|exact HB.out)) hb);clear BK358;clear HB;have BK358:=n0_;have HB:=n1_;clear n0_ n1_;(try clear hb);(try clear hb2);(try clear hk);(try clear hi);have hcz15_0 : w14.cell? ⟨gb358,0,none⟩ = some (.slice A0_0 l0_0.length c0_0):=(kC BK358.out 0).trans rfl;have hcz15_1 : w14.cell? ⟨gb358,1,none⟩ = some (.slice A0_1 l0_1.length c0_1):=(kC BK358.out 1).trans rfl;have hcz15_2 : w14.cell? ⟨gb358,2,none⟩ = some (.int .i64 a0_2):=(kC BK358.out 2).trans rfl;have hcz15_3 : w14.cell? ⟨gb358,3,none⟩ = some (.int .i64 a0_3):=(kC BK358.out 3).trans rfl;have hcz15_4 : w14.cell? ⟨gb358,4,none⟩ = some (.int .i64 a0_4):=(kC BK358.out 4).trans rfl;have hfz15_0:=kF BK358.out 0;have hfz15_1:=kF BK358.out 1;have hfz15_2:=kF BK358.out 2;have hfz15_3:=kF BK358.out 3;have hfz15_4:=kF BK358.out 4)|((with_reducible refine gate_callee (f:=70) rfl ?_);refine goesL_ (some 20) rfl rfl Try.func70 (by kernel_rfl) rfl #[.agg #[.slice A0_0 l0_0.length c0_0,.slice A0_1 l0_1.length c0_1,.int .i64 a0_2,.int .i64 a0_3,.int .i64 a0_4],.int .i64 x1_1] rfl (by (try simp only [List.map_toArray,List.map_cons,List.map_nil]);first|done|rfl|(simp only [List.length_drop,List.length_take];rfl)) ?_;(with_reducible refine (spec_l2rate.calls k1 _ _ l0_0 _ _ l0_1 a0_2 a0_3 a0_4 x1_1 t360 _ ?side1 ?side2 ?side3 ?side4 A10.out).mono ?_);(case side1 => repeat (first|exact (Kd.C_below HR0_0.out HB.out)|(with_reducible refine Kd.C_alloc ?_ _)|(with_reducible refine Kd.C_drewN ?_ _)|(with_reducible refine Kd.C_drew ?_)));(case side2 => exact HC0_0.out);(case side3 => repeat (first|exact (Kd.C_below HR0_1.out HB.out)|(with_reducible refine Kd.C_alloc ?_ _)|(with_reducible refine Kd.C_drewN ?_ _)|(with_reducible refine Kd.C_drew ?_)));(case side4 => exact HC0_1.out);rintro e w16 ⟨rfl,hb⟩;refine ⟨_,rfl,?_⟩;have n0_:=Am (blk_below (g:=gb358) (o:=.cells #[.slice A0_0 l0_0.length c0_0,.slice A0_1 l0_1.length c0_1,.int .i64 a0_2,.int .i64 a0_3,.int .i64 a0_4] 31 (0,0)) (by (with_reducible repeat (first|refine kN ?_ _|refine kD ?_|refine kA ?_ _));exact BK358.out) hb);have n1_:=Am (below_step (by repeat (first|(with_reducible first|exact HB.out|apply bA|apply bN|apply bD|refine bS ?_ GE358.out)|exact HB.out)) hb);clear BK358;clear HB;have BK358:=n0_;have HB:=n1_;clear n0_ n1_;(try clear hb);(try clear hb2);(try clear hk);(try clear hi);have hcz17_0 : w16.cell? ⟨gb358,0,none⟩ = some (.slice A0_0 l0_0.length c0_0):=(kC BK358.out 0).trans rfl;have hcz17_1 : w16.cell? ⟨gb358,1,none⟩ = some (.slice A0_1 l0_1.length c0_1):=(kC BK358.out 1).trans rfl;have hcz17_2 : w16.cell? ⟨gb358,2,none⟩ = some (.int .i64 a0_2):=(kC BK358.out 2).trans rfl;have hcz17_3 : w16.cell? ⟨gb358,3,none⟩ = some (.int .i64 a0_3):=(kC BK358.out 3).trans rfl;have hcz17_4 : w16.cell? ⟨gb358,4,none⟩ = some (.int .i64 a0_4):=(kC BK358.out 4).trans rfl;have hfz17_0:=kF BK358.out 0;have hfz17_1:=kF BK358.out 1;have hfz17_2:=kF BK358.out 2;have hfz17_3:=kF BK358.out 3;have hfz17_4:=kF BK358.out 4)|((with_reducible refine gate_callee (f:=73) rfl ?_);refine goesL_ (some 30) rfl rfl Try.func73 (by kernel_rfl) rfl #[.int .i64 x2_1,.int .i64 t360] rfl (by (try simp only [List.map_toArray,List.map_cons,List.map_nil]);first|done|rfl|(simp only [List.length_drop,List.length_take];rfl)) ?_;(with_reducible refine (spec_l2less.calls x2_1 t360 t361 _ A12.out).mono ?_);rintro e w' ⟨rfl,⟨nd,rfl⟩⟩;refine ⟨_,rfl,?_⟩))
      go_roundg k1
      case measure => have:=HK1.out;omega
      case rel => exact ⟨(wrap64 (x1_1 + x2_1)),(t361),(wrap64 (x7_1 + 1)),(by first|rfl|(simp;done)|(simp [*];done)),(by first|rfl|(simp;done)|(simp [*];done)),(by first|rfl|(simp;done)|(simp [*];done)),H',⟨by have:=HK1.out;omega⟩,⟨by (with_reducible repeat (first|refine kN ?_ _|refine kD ?_|refine kA ?_ _));exact BK358.out⟩,⟨by repeat (first|(with_reducible first|exact HB.out|apply bA|apply bN|apply bD|refine bS ?_ GE358.out)|exact HB.out)⟩⟩
     ·rw [if_neg c11] at H
      have c11b0 : decide (a0_4 ≤ x7_1) = false:=decide_eq_false c11
      clear c11
      have H':=Am H
      clear H
      have hcz18_0 : wr.cell? ⟨gb358,0,none⟩ = some (.slice A0_0 l0_0.length c0_0):=(kC BK358.out 0).trans rfl
      have hcz18_1 : wr.cell? ⟨gb358,1,none⟩ = some (.slice A0_1 l0_1.length c0_1):=(kC BK358.out 1).trans rfl
      have hcz18_2 : wr.cell? ⟨gb358,2,none⟩ = some (.int .i64 a0_2):=(kC BK358.out 2).trans rfl
      have hcz18_3 : wr.cell? ⟨gb358,3,none⟩ = some (.int .i64 a0_3):=(kC BK358.out 3).trans rfl
      have hcz18_4 : wr.cell? ⟨gb358,4,none⟩ = some (.int .i64 a0_4):=(kC BK358.out 4).trans rfl
      have hfz18_0:=kF BK358.out 0
      have hfz18_1:=kF BK358.out 1
      have hfz18_2:=kF BK358.out 2
      have hfz18_3:=kF BK358.out 3
      have hfz18_4:=kF BK358.out 4
      go_wp2_with (first|((with_reducible refine gate_callee (f:=82) rfl ?_);refine goesL_ (some 14) rfl rfl Try.func82 (by kernel_rfl) rfl #[.agg #[.slice A0_0 l0_0.length c0_0,.slice A0_1 l0_1.length c0_1,.int .i64 a0_2,.int .i64 a0_3,.int .i64 a0_4],.int .i64 x1_1,.int .i64 x2_1] rfl (by (try simp only [List.map_toArray,List.map_cons,List.map_nil]);first|done|rfl|(simp only [List.length_drop,List.length_take];rfl)) ?_;(with_reducible refine (spec_l3may.calls k1 _ _ l0_0 _ _ l0_1 a0_2 a0_3 a0_4 x1_1 x2_1 true _ ?side1 ?side2 ?side3 ?side4 A5.out).mono ?_);(case side1 => repeat (first|exact (Kd.C_below HR0_0.out HB.out)|(with_reducible refine Kd.C_alloc ?_ _)|(with_reducible refine Kd.C_drewN ?_ _)|(with_reducible refine Kd.C_drew ?_)));(case side2 => exact HC0_0.out);(case side3 => repeat (first|exact (Kd.C_below HR0_1.out HB.out)|(with_reducible refine Kd.C_alloc ?_ _)|(with_reducible refine Kd.C_drewN ?_ _)|(with_reducible refine Kd.C_drew ?_)));(case side4 => exact HC0_1.out);rintro e w19 ⟨rfl,hb⟩;refine ⟨_,rfl,?_⟩;have n0_:=Am (blk_below (g:=gb358) (o:=.cells #[.slice A0_0 l0_0.length c0_0,.slice A0_1 l0_1.length c0_1,.int .i64 a0_2,.int .i64 a0_3,.int .i64 a0_4] 31 (0,0)) (by (with_reducible repeat (first|refine kN ?_ _|refine kD ?_|refine kA ?_ _));exact BK358.out) hb);have n1_:=Am (below_step (by repeat (first|(with_reducible first|exact HB.out|apply bA|apply bN|apply bD|refine bS ?_ GE358.out)|exact HB.out)) hb);clear BK358;clear HB;have BK358:=n0_;have HB:=n1_;clear n0_ n1_;(try clear hb);(try clear hb2);(try clear hk);(try clear hi);have hcz20_0 : w19.cell? ⟨gb358,0,none⟩ = some (.slice A0_0 l0_0.length c0_0):=(kC BK358.out 0).trans rfl;have hcz20_1 : w19.cell? ⟨gb358,1,none⟩ = some (.slice A0_1 l0_1.length c0_1):=(kC BK358.out 1).trans rfl;have hcz20_2 : w19.cell? ⟨gb358,2,none⟩ = some (.int .i64 a0_2):=(kC BK358.out 2).trans rfl;have hcz20_3 : w19.cell? ⟨gb358,3,none⟩ = some (.int .i64 a0_3):=(kC BK358.out 3).trans rfl;have hcz20_4 : w19.cell? ⟨gb358,4,none⟩ = some (.int .i64 a0_4):=(kC BK358.out 4).trans rfl;have hfz20_0:=kF BK358.out 0;have hfz20_1:=kF BK358.out 1;have hfz20_2:=kF BK358.out 2;have hfz20_3:=kF BK358.out 3;have hfz20_4:=kF BK358.out 4)|((with_reducible refine gate_callee (f:=70) rfl ?_);refine goesL_ (some 20) rfl rfl Try.func70 (by kernel_rfl) rfl #[.agg #[.slice A0_0 l0_0.length c0_0,.slice A0_1 l0_1.length c0_1,.int .i64 a0_2,.int .i64 a0_3,.int .i64 a0_4],.int .i64 x1_1] rfl (by (try simp only [List.map_toArray,List.map_cons,List.map_nil]);first|done|rfl|(simp only [List.length_drop,List.length_take];rfl)) ?_;(with_reducible refine (spec_l2rate.calls k1 _ _ l0_0 _ _ l0_1 a0_2 a0_3 a0_4 x1_1 t360 _ ?side1 ?side2 ?side3 ?side4 A10.out).mono ?_);(case side1 => repeat (first|exact (Kd.C_below HR0_0.out HB.out)|(with_reducible refine Kd.C_alloc ?_ _)|(with_reducible refine Kd.C_drewN ?_ _)|(with_reducible refine Kd.C_drew ?_)));(case side2 => exact HC0_0.out);(case side3 => repeat (first|exact (Kd.C_below HR0_1.out HB.out)|(with_reducible refine Kd.C_alloc ?_ _)|(with_reducible refine Kd.C_drewN ?_ _)|(with_reducible refine Kd.C_drew ?_)));(case side4 => exact HC0_1.out);rintro e w21 ⟨rfl,hb⟩;refine ⟨_,rfl,?_⟩;have n0_:=Am (blk_below (g:=gb358) (o:=.cells #[.slice A0_0 l0_0.length c0_0,.slice A0_1 l0_1.length c0_1,.int .i64 a0_2,.int .i64 a0_3,.int .i64 a0_4] 31 (0,0)) (by (with_reducible repeat (first|refine kN ?_ _|refine kD ?_|refine kA ?_ _));exact BK358.out) hb);have n1_:=Am (below_step (by repeat (first|(with_reducible first|exact HB.out|apply bA|apply bN|apply bD|refine bS ?_ GE358.out)|exact HB.out)) hb);clear BK358;clear HB;have BK358:=n0_;have HB:=n1_;clear n0_ n1_;(try clear hb);(try clear hb2);(try clear hk);(try clear hi);have hcz22_0 : w21.cell? ⟨gb358,0,none⟩ = some (.slice A0_0 l0_0.length c0_0):=(kC BK358.out 0).trans rfl;have hcz22_1 : w21.cell? ⟨gb358,1,none⟩ = some (.slice A0_1 l0_1.length c0_1):=(kC BK358.out 1).trans rfl;have hcz22_2 : w21.cell? ⟨gb358,2,none⟩ = some (.int .i64 a0_2):=(kC BK358.out 2).trans rfl;have hcz22_3 : w21.cell? ⟨gb358,3,none⟩ = some (.int .i64 a0_3):=(kC BK358.out 3).trans rfl;have hcz22_4 : w21.cell? ⟨gb358,4,none⟩ = some (.int .i64 a0_4):=(kC BK358.out 4).trans rfl;have hfz22_0:=kF BK358.out 0;have hfz22_1:=kF BK358.out 1;have hfz22_2:=kF BK358.out 2;have hfz22_3:=kF BK358.out 3;have hfz22_4:=kF BK358.out 4))
      go_roundg k1
      case measure => have:=HK1.out;omega
      case rel => exact ⟨(wrap64 (x1_1 + x2_1)),(x2_1),(wrap64 (x7_1 + 1)),(by first|rfl|(simp;done)|(simp [*];done)),(by first|rfl|(simp;done)|(simp [*];done)),(by first|rfl|(simp;done)|(simp [*];done)),H',⟨by have:=HK1.out;omega⟩,⟨by (with_reducible repeat (first|refine kN ?_ _|refine kD ?_|refine kA ?_ _));exact BK358.out⟩,⟨by repeat (first|(with_reducible first|exact HB.out|apply bA|apply bN|apply bD|refine bS ?_ GE358.out)|exact HB.out)⟩⟩
   ·replace c6:=Bool.eq_false_iff.mpr c6
    subst c6
    have H1 : (some false) = some r:=by rw [if_neg (show ¬ (false = true) by decide)] at H;exact H
    clear H
    have H:=H1
    clear H1
    obtain rfl:=Option.some.inj H
    have hcz23_0 : wr.cell? ⟨gb358,0,none⟩ = some (.slice A0_0 l0_0.length c0_0):=(kC BK358.out 0).trans rfl
    have hcz23_1 : wr.cell? ⟨gb358,1,none⟩ = some (.slice A0_1 l0_1.length c0_1):=(kC BK358.out 1).trans rfl
    have hcz23_2 : wr.cell? ⟨gb358,2,none⟩ = some (.int .i64 a0_2):=(kC BK358.out 2).trans rfl
    have hcz23_3 : wr.cell? ⟨gb358,3,none⟩ = some (.int .i64 a0_3):=(kC BK358.out 3).trans rfl
    have hcz23_4 : wr.cell? ⟨gb358,4,none⟩ = some (.int .i64 a0_4):=(kC BK358.out 4).trans rfl
    have hfz23_0:=kF BK358.out 0
    have hfz23_1:=kF BK358.out 1
    have hfz23_2:=kF BK358.out 2
    have hfz23_3:=kF BK358.out 3
    have hfz23_4:=kF BK358.out 4
    go_wp2_with (first|((with_reducible refine gate_callee (f:=82) rfl ?_);refine goesL_ (some 14) rfl rfl Try.func82 (by kernel_rfl) rfl #[.agg #[.slice A0_0 l0_0.length c0_0,.slice A0_1 l0_1.length c0_1,.int .i64 a0_2,.int .i64 a0_3,.int .i64 a0_4],.int .i64 x1_1,.int .i64 x2_1] rfl (by (try simp only [List.map_toArray,List.map_cons,List.map_nil]);first|done|rfl|(simp only [List.length_drop,List.length_take];rfl)) ?_;(with_reducible refine (spec_l3may.calls k1 _ _ l0_0 _ _ l0_1 a0_2 a0_3 a0_4 x1_1 x2_1 false _ ?side1 ?side2 ?side3 ?side4 A5.out).mono ?_);(case side1 => repeat (first|exact (Kd.C_below HR0_0.out HB.out)|(with_reducible refine Kd.C_alloc ?_ _)|(with_reducible refine Kd.C_drewN ?_ _)|(with_reducible refine Kd.C_drew ?_)));(case side2 => exact HC0_0.out);(case side3 => repeat (first|exact (Kd.C_below HR0_1.out HB.out)|(with_reducible refine Kd.C_alloc ?_ _)|(with_reducible refine Kd.C_drewN ?_ _)|(with_reducible refine Kd.C_drew ?_)));(case side4 => exact HC0_1.out);rintro e w24 ⟨rfl,hb⟩;refine ⟨_,rfl,?_⟩;have n0_:=Am (blk_below (g:=gb358) (o:=.cells #[.slice A0_0 l0_0.length c0_0,.slice A0_1 l0_1.length c0_1,.int .i64 a0_2,.int .i64 a0_3,.int .i64 a0_4] 31 (0,0)) (by (with_reducible repeat (first|refine kN ?_ _|refine kD ?_|refine kA ?_ _));exact BK358.out) hb);have n1_:=Am (below_step (by repeat (first|(with_reducible first|exact HB.out|apply bA|apply bN|apply bD|refine bS ?_ GE358.out)|exact HB.out)) hb);clear BK358;clear HB;have BK358:=n0_;have HB:=n1_;clear n0_ n1_;(try clear hb);(try clear hb2);(try clear hk);(try clear hi)))
    go_ret
    exact ⟨by first|rfl|(simp [errW_none,errW_some] <;> rfl)|(simp [*,errW_none,errW_some] <;> rfl),by repeat (first|(with_reducible first|exact HB.out|apply bA|apply bN|apply bD|refine bS ?_ GE358.out)|exact HB.out)⟩

end Go.Proofs.Ytgakkndbcilclaa.PA
