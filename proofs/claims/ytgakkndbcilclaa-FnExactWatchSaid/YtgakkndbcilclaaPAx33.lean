-- Written by a program of this session (wip/print/myprint.py) over the kit's print, with contracts of its own; not a text of print.sh's.
import Derived.Test.YtgakkndbcilclaaPAx0
import Derived.Test.YtgakkndbcilclaaPAx17
import Derived.Test.YtgakkndbcilclaaPAx22
namespace Go.Proofs.Ytgakkndbcilclaa.PA
open Go.RowKit Go.Proofs.YtgakkndbcilclaaW.PrintWords Go.Proofs.YtgakkndbcilclaaW.PrintLast Go.Proofs.YtgakkndbcilclaaW.PrintMore
attribute [local go_sem] max2_int min2_int max_two min_two   -- for this text's walks alone
set_option linter.unusedVariables false
set_option linter.unusedSimpArgs false

/-! ### impl_safe: function 78 -/
def impl_safe.l0 : Nat → Int → Int → Int → Int → List (S71) → List (S75) → Int → Int → Int → Option (Bool)
 | 0,_,_,_,_,_,_,_,_,_ => none
 | k + 1,x1,x2,x7,x8,x366000,x366001,x366002,x366003,x366004 => if x8 > x366004 then ((impl_brakeAt.f k x366000 x366001 x366002 x366003 x366004 x7).bind fun t366 => (if (mx (wrap64 (x2 - t366)) 0) = 0 then (some true) else (if (wrap64 (x1 + (mx (wrap64 (x2 - t366)) 0))) > x366003 then (some false) else ((impl_touched.f k x366000 x366001 x366002 x366003 x366004 x1 (wrap64 (x1 + (mx (wrap64 (x2 - t366)) 0)))).bind fun t367 => (if (mx (wrap64 (x2 - t366)) 0) > t367 then (some false) else (impl_safe.l0 k (wrap64 (x1 + (mx (wrap64 (x2 - t366)) 0))) (mx (wrap64 (x2 - t366)) 0) x1 (wrap64 (x8 + 1)) x366000 x366001 x366002 x366003 x366004)))))) else (if (wrap64 (x1 + x2)) > x366003 then (some false) else ((impl_touched.f k x366000 x366001 x366002 x366003 x366004 x1 (wrap64 (x1 + x2))).bind fun t368 => (if x2 > t368 then (some false) else (impl_safe.l0 k (wrap64 (x1 + x2)) x2 x1 (wrap64 (x8 + 1)) x366000 x366001 x366002 x366003 x366004))))
def impl_safe.f (k : Nat) (l0_0 : List (S71)) (l0_1 : List (S75)) (a0_2 : Int) (a0_3 : Int) (a0_4 : Int) (a1 : Int) (a2 : Int) : Option (Bool):=if a2 = 0 then (some (decide (a1 ≤ a0_3))) else (impl_safe.l0 k a1 a2 a1 0 l0_0 l0_1 a0_2 a0_3 a0_4)
theorem impl_safe.mono_l : ∀ k,(∀ y0 y1 y2 y3 y4 y5 y6 y7 y8,LeO (impl_safe.l0 k y0 y1 y2 y3 y4 y5 y6 y7 y8) (impl_safe.l0 (k + 1) y0 y1 y2 y3 y4 y5 y6 y7 y8))
 | 0 => fun _ _ _ _ _ _ _ _ _ r h => by simp [impl_safe.l0] at h
 | k + 1 => by
  have ih0:=impl_safe.mono_l k
  ·intro y0 y1 y2 y3 y4 y5 y6 y7 y8
   unfold impl_safe.l0
   repeat' first
   | (with_reducible exact ih0 _ _ _ _ _ _ _ _ _)
   | (with_reducible exact impl_brakeAt.mono _ _ _ _ _ _ _)
   | (with_reducible exact impl_touched.mono _ _ _ _ _ _ _ _)
   | (with_reducible exact LeO.refl _)
   | (with_reducible exact LeO.none _)
   | (with_reducible refine LeO.ite ?_ ?_)
   | (with_reducible refine LeO.bind ?_ (fun _ => ?_))
   | exact ih0 _ _ _ _ _ _ _ _ _
   | exact impl_brakeAt.mono _ _ _ _ _ _ _
   | exact impl_touched.mono _ _ _ _ _ _ _ _
   | exact LeO.none _
   | refine LeO.ite ?_ ?_
   | refine LeO.bind ?_ (fun _ => ?_)
theorem impl_safe.mono : ∀ a0 a1 a2 a3 a4 a5 a6 k,LeO (impl_safe.f k a0 a1 a2 a3 a4 a5 a6) (impl_safe.f (k + 1) a0 a1 a2 a3 a4 a5 a6):=by
 intro a0 a1 a2 a3 a4 a5 a6 k
 have ih0:=impl_safe.mono_l k
 unfold impl_safe.f
 repeat' first
   | (with_reducible exact ih0 _ _ _ _ _ _ _ _ _)
   | (with_reducible exact impl_brakeAt.mono _ _ _ _ _ _ _)
   | (with_reducible exact impl_touched.mono _ _ _ _ _ _ _ _)
   | (with_reducible exact LeO.refl _)
   | (with_reducible exact LeO.none _)
   | (with_reducible refine LeO.ite ?_ ?_)
   | (with_reducible refine LeO.bind ?_ (fun _ => ?_))
   | exact ih0 _ _ _ _ _ _ _ _ _
   | exact impl_brakeAt.mono _ _ _ _ _ _ _
   | exact impl_touched.mono _ _ _ _ _ _ _ _
   | exact LeO.none _
   | refine LeO.ite ?_ ?_
   | refine LeO.bind ?_ (fun _ => ?_)
set_option maxHeartbeats 8000000 in
set_option maxRecDepth 100000 in
theorem impl_safe.calls (k : Nat) (A0_0 : Option Addr) (c0_0 : Nat) (l0_0 : List (S71)) (A0_1 : Option Addr) (c0_1 : Nat) (l0_1 : List (S75)) (a0_2 : Int) (a0_3 : Int) (a0_4 : Int) (a1 : Int) (a2 : Int) (r : Bool) (w : World) (hr0_0 : Kd.C k71 w A0_0 l0_0.length l0_0) (hc0_0 : l0_0.length ≤ c0_0) (hr0_1 : Kd.C k75 w A0_1 l0_1.length l0_1) (hc0_1 : l0_1.length ≤ c0_1) (h : impl_safe.f k l0_0 l0_1 a0_2 a0_3 a0_4 a1 a2 = some r) :
  Calls Try.prog 78 #[.agg #[.slice A0_0 l0_0.length c0_0,.slice A0_1 l0_1.length c0_1,.int .i64 a0_2,.int .i64 a0_3,.int .i64 a0_4],.int .i64 a1,.int .i64 a2] w fun e w' => e = .returned (.bool r)∧Below w.heap.size w w':=by
 have hu31:=Try.underlying31
 have HR0_0:=Am hr0_0
 have HC0_0:=Am hc0_0
 clear hr0_0 hc0_0
 have HR0_1:=Am hr0_1
 have HC0_1:=Am hc0_1
 clear hr0_1 hc0_1
 have HB:=Am (Below.refl w.heap.size w)
 have H : (if a2 = 0 then (some (decide (a1 ≤ a0_3))) else (impl_safe.l0 k a1 a2 a1 0 l0_0 l0_1 a0_2 a0_3 a0_4)) = some r:=h
 clear h
 by_cases c4 : a2 = 0
 ·rw [if_pos c4] at H
  have c4b0 : (a2 == 0) = true:=beq_iff_eq.mpr c4
  have c4b1 : (a2 != 0) = false:=bne_eq_false_iff_eq.mpr c4
  clear c4
  obtain rfl:=Option.some.inj H
  go_enter Try.func78,Try.ntmps78
  go_wp2_with (first|((with_reducible refine gate_dst (N:=3) rfl ?_);refine box_event ?hg (N:=3) ?hd (cs:=#[.slice A0_0 l0_0.length c0_0,.slice A0_1 l0_1.length c0_1,.int .i64 a0_2,.int .i64 a0_3,.int .i64 a0_4]) (t:=31) ?hr ?_;(case hd => rfl);(case hg => rfl);(case hr => first|(go_simp;done)|(go_simp;rfl));intro gb365 hg w5 hbox hb;have n0_:=Am (below_step (by repeat (first|(with_reducible first|exact HB.out|apply bA|apply bN|apply bD)|exact HB.out)) hb);have n1_:=Am (hbox);have n2_:=Am ((by rw [hg];exact (below_size (by repeat (first|(with_reducible first|exact HB.out|apply bA|apply bN|apply bD)|exact HB.out))) : w.heap.size ≤ gb365));have n3_:=Am ((by rw [hg];exact (below_size (by repeat (first|(with_reducible first|exact HB.out|apply bA|apply bN|apply bD)|exact HB.out))) : w.heap.size ≤ gb365));clear HB;have HB:=n0_;have BK365:=n1_;have GW365:=n2_;have GE365:=n3_;clear n0_ n1_ n2_ n3_;clear hb hbox hg;have hcz6_0 : w5.cell? ⟨gb365,0,none⟩ = some (.slice A0_0 l0_0.length c0_0):=(kC BK365.out 0).trans rfl;have hcz6_1 : w5.cell? ⟨gb365,1,none⟩ = some (.slice A0_1 l0_1.length c0_1):=(kC BK365.out 1).trans rfl;have hcz6_2 : w5.cell? ⟨gb365,2,none⟩ = some (.int .i64 a0_2):=(kC BK365.out 2).trans rfl;have hcz6_3 : w5.cell? ⟨gb365,3,none⟩ = some (.int .i64 a0_3):=(kC BK365.out 3).trans rfl;have hcz6_4 : w5.cell? ⟨gb365,4,none⟩ = some (.int .i64 a0_4):=(kC BK365.out 4).trans rfl;have hfz6_0:=kF BK365.out 0;have hfz6_1:=kF BK365.out 1;have hfz6_2:=kF BK365.out 2;have hfz6_3:=kF BK365.out 3;have hfz6_4:=kF BK365.out 4))
  go_ret
  exact ⟨by first|rfl|(simp [errW_none,errW_some] <;> rfl)|(simp [*,errW_none,errW_some] <;> rfl),by repeat (first|(with_reducible first|exact HB.out|apply bA|apply bN|apply bD|refine bS ?_ GE365.out)|exact HB.out)⟩
 ·rw [if_neg c4] at H
  have c4b0 : (a2 == 0) = false:=beq_eq_false_iff_ne.mpr c4
  have c4b1 : (a2 != 0) = true:=bne_iff_ne.mpr c4
  have H':=Am H
  clear H
  go_enter Try.func78,Try.ntmps78
  go_wp2_with (first|((with_reducible refine gate_dst (N:=3) rfl ?_);refine box_event ?hg (N:=3) ?hd (cs:=#[.slice A0_0 l0_0.length c0_0,.slice A0_1 l0_1.length c0_1,.int .i64 a0_2,.int .i64 a0_3,.int .i64 a0_4]) (t:=31) ?hr ?_;(case hd => rfl);(case hg => rfl);(case hr => first|(go_simp;done)|(go_simp;rfl));intro gb365 hg w7 hbox hb;have n0_:=Am (below_step (by repeat (first|(with_reducible first|exact HB.out|apply bA|apply bN|apply bD)|exact HB.out)) hb);have n1_:=Am (hbox);have n2_:=Am ((by rw [hg];exact (below_size (by repeat (first|(with_reducible first|exact HB.out|apply bA|apply bN|apply bD)|exact HB.out))) : w.heap.size ≤ gb365));have n3_:=Am ((by rw [hg];exact (below_size (by repeat (first|(with_reducible first|exact HB.out|apply bA|apply bN|apply bD)|exact HB.out))) : w.heap.size ≤ gb365));clear HB;have HB:=n0_;have BK365:=n1_;have GW365:=n2_;have GE365:=n3_;clear n0_ n1_ n2_ n3_;clear hb hbox hg))
  go_loopg [1,2,7,8] k (fun kq v1 v2 v7 v8 w' => ∃ (x1_1 : Int) (x2_1 : Int) (x7_1 : Int) (x8_1 : Int),v1 = .int .i64 x1_1∧v2 = .int .i64 x2_1∧v7 = .int .i64 x7_1∧v8 = .int .i64 x8_1∧As (impl_safe.l0 kq x1_1 x2_1 x7_1 x8_1 l0_0 l0_1 a0_2 a0_3 a0_4 = some r)∧As (kq ≤ k)∧As (w'.heap[gb365]? = some (.cells #[(.slice A0_0 l0_0.length c0_0),(.slice A0_1 l0_1.length c0_1),.int .i64 a0_2,.int .i64 a0_3,.int .i64 a0_4] 31 (0,0)))∧As (Below w.heap.size w w'))
  case atStart => exact ⟨(a1),(a2),(a1),(0),(by first|rfl|(simp;done)|(simp [*];done)),(by first|rfl|(simp;done)|(simp [*];done)),(by first|rfl|(simp;done)|(simp [*];done)),(by first|rfl|(simp;done)|(simp [*];done)),H',⟨Nat.le_refl _⟩,⟨by (with_reducible repeat (first|refine kN ?_ _|refine kD ?_|refine kA ?_ _));exact BK365.out⟩,⟨by repeat (first|(with_reducible first|exact HB.out|apply bA|apply bN|apply bD|refine bS ?_ GE365.out)|exact HB.out)⟩⟩
  case round =>
   clear H'
   try clear p2
   try clear c4
   try clear c4b0
   try clear c4b1
   try clear c7
   try clear hcz6_0
   try clear hcz6_1
   try clear hcz6_2
   try clear hcz6_3
   try clear hcz6_4
   try clear hfz6_0
   try clear hfz6_1
   try clear hfz6_2
   try clear hfz6_3
   try clear hfz6_4
   obtain ⟨x1_1,x2_1,x7_1,x8_1,rfl,rfl,rfl,rfl,HA,HK1,BK365,HB⟩:=hrel
   cases gk with
   | zero => exact absurd HA.out (by simp [impl_safe.l0])
   | succ k1 =>
    have H:=HA.out
    clear HA
    simp only [impl_safe.l0] at H
    by_cases c8 : x8_1 > a0_4
    ·rw [if_pos c8] at H
     have c8b0 : decide (a0_4 < x8_1) = true:=decide_eq_true c8
     clear c8
     replace H:=Option.bind_eq_some_iff.mp H
     obtain ⟨t366,A90,H⟩:=H
     replace H : (if (mx (wrap64 (x2_1 - t366)) 0) = 0 then (some true) else (if (wrap64 (x1_1 + (mx (wrap64 (x2_1 - t366)) 0))) > a0_3 then (some false) else ((impl_touched.f k1 l0_0 l0_1 a0_2 a0_3 a0_4 x1_1 (wrap64 (x1_1 + (mx (wrap64 (x2_1 - t366)) 0)))).bind fun t367 => (if (mx (wrap64 (x2_1 - t366)) 0) > t367 then (some false) else (impl_safe.l0 k1 (wrap64 (x1_1 + (mx (wrap64 (x2_1 - t366)) 0))) (mx (wrap64 (x2_1 - t366)) 0) x1_1 (wrap64 (x8_1 + 1)) l0_0 l0_1 a0_2 a0_3 a0_4))))) = some r:=H
     have A9:=Am A90
     clear A90
     obtain ⟨ji10,hji10⟩ : ∃ j_ : Int,(mx (wrap64 (x2_1 - t366)) 0) = j_:=⟨_,rfl⟩
     replace H : (if (ji10) = 0 then (some true) else (if (wrap64 (x1_1 + (ji10))) > a0_3 then (some false) else ((impl_touched.f k1 l0_0 l0_1 a0_2 a0_3 a0_4 x1_1 (wrap64 (x1_1 + (ji10)))).bind fun t367 => (if (ji10) > t367 then (some false) else (impl_safe.l0 k1 (wrap64 (x1_1 + (ji10))) ji10 x1_1 (wrap64 (x8_1 + 1)) l0_0 l0_1 a0_2 a0_3 a0_4))))) = some r:=by first|(rw [hji10] at H;exact H)|(simp only [hji10] at H ⊢;exact H)
     (try rw [hji10] at A9)
     have hji10_ : (if (wrap64 (x2_1 - t366)) < 0 then 0 else (wrap64 (x2_1 - t366))) = ji10:=hji10
     by_cases c11 : (ji10) = 0
     ·rw [if_pos c11] at H
      have c11b0 : ((ji10) == 0) = true:=beq_iff_eq.mpr c11
      have c11b1 : ((ji10) != 0) = false:=bne_eq_false_iff_eq.mpr c11
      clear c11
      obtain rfl:=Option.some.inj H
      have hcz12_0 : wr.cell? ⟨gb365,0,none⟩ = some (.slice A0_0 l0_0.length c0_0):=(kC BK365.out 0).trans rfl
      have hcz12_1 : wr.cell? ⟨gb365,1,none⟩ = some (.slice A0_1 l0_1.length c0_1):=(kC BK365.out 1).trans rfl
      have hcz12_2 : wr.cell? ⟨gb365,2,none⟩ = some (.int .i64 a0_2):=(kC BK365.out 2).trans rfl
      have hcz12_3 : wr.cell? ⟨gb365,3,none⟩ = some (.int .i64 a0_3):=(kC BK365.out 3).trans rfl
      have hcz12_4 : wr.cell? ⟨gb365,4,none⟩ = some (.int .i64 a0_4):=(kC BK365.out 4).trans rfl
      have hfz12_0:=kF BK365.out 0
      have hfz12_1:=kF BK365.out 1
      have hfz12_2:=kF BK365.out 2
      have hfz12_3:=kF BK365.out 3
      have hfz12_4:=kF BK365.out 4
      go_wp2_with (first|((with_reducible refine gate_callee (f:=71) rfl ?_);refine goesL_ (some 25) rfl rfl Try.func71 (by kernel_rfl) rfl #[.agg #[.slice A0_0 l0_0.length c0_0,.slice A0_1 l0_1.length c0_1,.int .i64 a0_2,.int .i64 a0_3,.int .i64 a0_4],.int .i64 x7_1] rfl (by (try simp only [List.map_toArray,List.map_cons,List.map_nil]);first|done|rfl|(simp only [List.length_drop,List.length_take];rfl)) ?_;(with_reducible refine (impl_brakeAt.calls k1 _ _ l0_0 _ _ l0_1 a0_2 a0_3 a0_4 x7_1 t366 _ ?side1 ?side2 ?side3 ?side4 A9.out).mono ?_);(case side1 => repeat (first|exact (Kd.C_below HR0_0.out HB.out)|(with_reducible refine Kd.C_alloc ?_ _)|(with_reducible refine Kd.C_drewN ?_ _)|(with_reducible refine Kd.C_drew ?_)));(case side2 => exact HC0_0.out);(case side3 => repeat (first|exact (Kd.C_below HR0_1.out HB.out)|(with_reducible refine Kd.C_alloc ?_ _)|(with_reducible refine Kd.C_drewN ?_ _)|(with_reducible refine Kd.C_drew ?_)));(case side4 => exact HC0_1.out);rintro e w13 ⟨rfl,hb⟩;refine ⟨_,rfl,?_⟩;have n0_:=Am (blk_below (g:=gb365) (o:=.cells #[.slice A0_0 l0_0.length c0_0,.slice A0_1 l0_1.length c0_1,.int .i64 a0_2,.int .i64 a0_3,.int .i64 a0_4] 31 (0,0)) (by (with_reducible repeat (first|refine kN ?_ _|refine kD ?_|refine kA ?_ _));exact BK365.out) hb);have n1_:=Am (below_step (by repeat (first|(with_reducible first|exact HB.out|apply bA|apply bN|apply bD|refine bS ?_ GE365.out)|exact HB.out)) hb);clear BK365;clear HB;have BK365:=n0_;have HB:=n1_;clear n0_ n1_;(try clear hb);(try clear hb2);(try clear hk);(try clear hi)))
      go_ret
      exact ⟨by first|rfl|(simp [errW_none,errW_some] <;> rfl)|(simp only [← hji10];first|rfl|(simp [errW_none,errW_some] <;> rfl))|(simp [*,errW_none,errW_some] <;> rfl),by repeat (first|(with_reducible first|exact HB.out|apply bA|apply bN|apply bD|refine bS ?_ GE365.out)|exact HB.out)⟩
     ·rw [if_neg c11] at H
      have c11b0 : ((ji10) == 0) = false:=beq_eq_false_iff_ne.mpr c11
      have c11b1 : ((ji10) != 0) = true:=bne_iff_ne.mpr c11
      clear c11
      by_cases c14 : (wrap64 (x1_1 + (ji10))) > a0_3
      ·rw [if_pos c14] at H
       have c14b0 : decide (a0_3 < (wrap64 (x1_1 + (ji10)))) = true:=decide_eq_true c14
       clear c14
       obtain rfl:=Option.some.inj H
       have hcz15_0 : wr.cell? ⟨gb365,0,none⟩ = some (.slice A0_0 l0_0.length c0_0):=(kC BK365.out 0).trans rfl
       have hcz15_1 : wr.cell? ⟨gb365,1,none⟩ = some (.slice A0_1 l0_1.length c0_1):=(kC BK365.out 1).trans rfl
       have hcz15_2 : wr.cell? ⟨gb365,2,none⟩ = some (.int .i64 a0_2):=(kC BK365.out 2).trans rfl
       have hcz15_3 : wr.cell? ⟨gb365,3,none⟩ = some (.int .i64 a0_3):=(kC BK365.out 3).trans rfl
       have hcz15_4 : wr.cell? ⟨gb365,4,none⟩ = some (.int .i64 a0_4):=(kC BK365.out 4).trans rfl
       have hfz15_0:=kF BK365.out 0
       have hfz15_1:=kF BK365.out 1
       have hfz15_2:=kF BK365.out 2
       have hfz15_3:=kF BK365.out 3
       have hfz15_4:=kF BK365.out 4
       go_wp2_with (first|((with_reducible refine gate_callee (f:=71) rfl ?_);refine goesL_ (some 25) rfl rfl Try.func71 (by kernel_rfl) rfl #[.agg #[.slice A0_0 l0_0.length c0_0,.slice A0_1 l0_1.length c0_1,.int .i64 a0_2,.int .i64 a0_3,.int .i64 a0_4],.int .i64 x7_1] rfl (by (try simp only [List.map_toArray,List.map_cons,List.map_nil]);first|done|rfl|(simp only [List.length_drop,List.length_take];rfl)) ?_;(with_reducible refine (impl_brakeAt.calls k1 _ _ l0_0 _ _ l0_1 a0_2 a0_3 a0_4 x7_1 t366 _ ?side1 ?side2 ?side3 ?side4 A9.out).mono ?_);(case side1 => repeat (first|exact (Kd.C_below HR0_0.out HB.out)|(with_reducible refine Kd.C_alloc ?_ _)|(with_reducible refine Kd.C_drewN ?_ _)|(with_reducible refine Kd.C_drew ?_)));(case side2 => exact HC0_0.out);(case side3 => repeat (first|exact (Kd.C_below HR0_1.out HB.out)|(with_reducible refine Kd.C_alloc ?_ _)|(with_reducible refine Kd.C_drewN ?_ _)|(with_reducible refine Kd.C_drew ?_)));(case side4 => exact HC0_1.out);rintro e w16 ⟨rfl,hb⟩;refine ⟨_,rfl,?_⟩;have n0_:=Am (blk_below (g:=gb365) (o:=.cells #[.slice A0_0 l0_0.length c0_0,.slice A0_1 l0_1.length c0_1,.int .i64 a0_2,.int .i64 a0_3,.int .i64 a0_4] 31 (0,0)) (by (with_reducible repeat (first|refine kN ?_ _|refine kD ?_|refine kA ?_ _));exact BK365.out) hb);have n1_:=Am (below_step (by repeat (first|(with_reducible first|exact HB.out|apply bA|apply bN|apply bD|refine bS ?_ GE365.out)|exact HB.out)) hb);clear BK365;clear HB;have BK365:=n0_;have HB:=n1_;clear n0_ n1_;(try clear hb);(try clear hb2);(try clear hk);(try clear hi);have hcz17_0 : w16.cell? ⟨gb365,0,none⟩ = some (.slice A0_0 l0_0.length c0_0):=(kC BK365.out 0).trans rfl;have hcz17_1 : w16.cell? ⟨gb365,1,none⟩ = some (.slice A0_1 l0_1.length c0_1):=(kC BK365.out 1).trans rfl;have hcz17_2 : w16.cell? ⟨gb365,2,none⟩ = some (.int .i64 a0_2):=(kC BK365.out 2).trans rfl;have hcz17_3 : w16.cell? ⟨gb365,3,none⟩ = some (.int .i64 a0_3):=(kC BK365.out 3).trans rfl;have hcz17_4 : w16.cell? ⟨gb365,4,none⟩ = some (.int .i64 a0_4):=(kC BK365.out 4).trans rfl;have hfz17_0:=kF BK365.out 0;have hfz17_1:=kF BK365.out 1;have hfz17_2:=kF BK365.out 2;have hfz17_3:=kF BK365.out 3;have hfz17_4:=kF BK365.out 4))
       go_ret
       exact ⟨by first|rfl|(simp [errW_none,errW_some] <;> rfl)|(simp only [← hji10];first|rfl|(simp [errW_none,errW_some] <;> rfl))|(simp [*,errW_none,errW_some] <;> rfl),by repeat (first|(with_reducible first|exact HB.out|apply bA|apply bN|apply bD|refine bS ?_ GE365.out)|exact HB.out)⟩
      ·rw [if_neg c14] at H
       have c14b0 : decide (a0_3 < (wrap64 (x1_1 + (ji10)))) = false:=decide_eq_false c14
       clear c14
       replace H:=Option.bind_eq_some_iff.mp H
       obtain ⟨t367,A180,H⟩:=H
       replace H : (if (ji10) > t367 then (some false) else (impl_safe.l0 k1 (wrap64 (x1_1 + (ji10))) ji10 x1_1 (wrap64 (x8_1 + 1)) l0_0 l0_1 a0_2 a0_3 a0_4)) = some r:=H
       have A18:=Am A180
       clear A180
       by_cases c19 : (ji10) > t367
       ·rw [if_pos c19] at H
        have c19b0 : decide (t367 < (ji10)) = true:=decide_eq_true c19
        clear c19
        obtain rfl:=Option.some.inj H
        have hcz20_0 : wr.cell? ⟨gb365,0,none⟩ = some (.slice A0_0 l0_0.length c0_0):=(kC BK365.out 0).trans rfl
        have hcz20_1 : wr.cell? ⟨gb365,1,none⟩ = some (.slice A0_1 l0_1.length c0_1):=(kC BK365.out 1).trans rfl
        have hcz20_2 : wr.cell? ⟨gb365,2,none⟩ = some (.int .i64 a0_2):=(kC BK365.out 2).trans rfl
        have hcz20_3 : wr.cell? ⟨gb365,3,none⟩ = some (.int .i64 a0_3):=(kC BK365.out 3).trans rfl
        have hcz20_4 : wr.cell? ⟨gb365,4,none⟩ = some (.int .i64 a0_4):=(kC BK365.out 4).trans rfl
        have hfz20_0:=kF BK365.out 0
        have hfz20_1:=kF BK365.out 1
        have hfz20_2:=kF BK365.out 2
        have hfz20_3:=kF BK365.out 3
        have hfz20_4:=kF BK365.out 4
        go_wp2_with (first|((with_reducible refine gate_callee (f:=71) rfl ?_);refine goesL_ (some 25) rfl rfl Try.func71 (by kernel_rfl) rfl #[.agg #[.slice A0_0 l0_0.length c0_0,.slice A0_1 l0_1.length c0_1,.int .i64 a0_2,.int .i64 a0_3,.int .i64 a0_4],.int .i64 x7_1] rfl (by (try simp only [List.map_toArray,List.map_cons,List.map_nil]);first|done|rfl|(simp only [List.length_drop,List.length_take];rfl)) ?_;(with_reducible refine (impl_brakeAt.calls k1 _ _ l0_0 _ _ l0_1 a0_2 a0_3 a0_4 x7_1 t366 _ ?side1 ?side2 ?side3 ?side4 A9.out).mono ?_);(case side1 => repeat (first|exact (Kd.C_below HR0_0.out HB.out)|(with_reducible refine Kd.C_alloc ?_ _)|(with_reducible refine Kd.C_drewN ?_ _)|(with_reducible refine Kd.C_drew ?_)));(case side2 => exact HC0_0.out);(case side3 => repeat (first|exact (Kd.C_below HR0_1.out HB.out)|(with_reducible refine Kd.C_alloc ?_ _)|(with_reducible refine Kd.C_drewN ?_ _)|(with_reducible refine Kd.C_drew ?_)));(case side4 => exact HC0_1.out);rintro e w21 ⟨rfl,hb⟩;refine ⟨_,rfl,?_⟩;have n0_:=Am (blk_below (g:=gb365) (o:=.cells #[.slice A0_0 l0_0.length c0_0,.slice A0_1 l0_1.length c0_1,.int .i64 a0_2,.int .i64 a0_3,.int .i64 a0_4] 31 (0,0)) (by (with_reducible repeat (first|refine kN ?_ _|refine kD ?_|refine kA ?_ _));exact BK365.out) hb);have n1_:=Am (below_step (by repeat (first|(with_reducible first|exact HB.out|apply bA|apply bN|apply bD|refine bS ?_ GE365.out)|exact HB.out)) hb);clear BK365;clear HB;have BK365:=n0_;have HB:=n1_;clear n0_ n1_;(try clear hb);(try clear hb2);(try clear hk);(try clear hi);have hcz22_0 : w21.cell? ⟨gb365,0,none⟩ = some (.slice A0_0 l0_0.length c0_0):=(kC BK365.out 0).trans rfl;have hcz22_1 : w21.cell? ⟨gb365,1,none⟩ = some (.slice A0_1 l0_1.length c0_1):=(kC BK365.out 1).trans rfl;have hcz22_2 : w21.cell? ⟨gb365,2,none⟩ = some (.int .i64 a0_2):=(kC BK365.out 2).trans rfl;have hcz22_3 : w21.cell? ⟨gb365,3,none⟩ = some (.int .i64 a0_3):=(kC BK365.out 3).trans rfl;have hcz22_4 : w21.cell? ⟨gb365,4,none⟩ = some (.int .i64 a0_4):=(kC BK365.out 4).trans rfl;have hfz22_0:=kF BK365.out 0;have hfz22_1:=kF BK365.out 1;have hfz22_2:=kF BK365.out 2;have hfz22_3:=kF BK365.out 3;have hfz22_4:=kF BK365.out 4)|(go_at_call 69;(with_reducible refine (impl_touched.calls k1 _ _ l0_0 _ _ l0_1 a0_2 a0_3 a0_4 x1_1 (wrap64 (x1_1 + (ji10))) t367 _ ?side1 ?side2 ?side3 ?side4 A18.out).mono ?_);(case side1 => repeat (first|exact (Kd.C_below HR0_0.out HB.out)|(with_reducible refine Kd.C_alloc ?_ _)|(with_reducible refine Kd.C_drewN ?_ _)|(with_reducible refine Kd.C_drew ?_)));(case side2 => exact HC0_0.out);(case side3 => repeat (first|exact (Kd.C_below HR0_1.out HB.out)|(with_reducible refine Kd.C_alloc ?_ _)|(with_reducible refine Kd.C_drewN ?_ _)|(with_reducible refine Kd.C_drew ?_)));(case side4 => exact HC0_1.out);rintro e w23 ⟨rfl,hb⟩;have n0_:=Am (blk_below (g:=gb365) (o:=.cells #[.slice A0_0 l0_0.length c0_0,.slice A0_1 l0_1.length c0_1,.int .i64 a0_2,.int .i64 a0_3,.int .i64 a0_4] 31 (0,0)) (by (with_reducible repeat (first|refine kN ?_ _|refine kD ?_|refine kA ?_ _));exact BK365.out) hb);have n1_:=Am (below_step (by repeat (first|(with_reducible first|exact HB.out|apply bA|apply bN|apply bD|refine bS ?_ GE365.out)|exact HB.out)) hb);clear BK365;clear HB;have BK365:=n0_;have HB:=n1_;clear n0_ n1_;(try clear hb);(try clear hb2);(try clear hk);(try clear hi)))
        go_ret
        exact ⟨by first|rfl|(simp [errW_none,errW_some] <;> rfl)|(simp only [← hji10];first|rfl|(simp [errW_none,errW_some] <;> rfl))|(simp [*,errW_none,errW_some] <;> rfl),by repeat (first|(with_reducible first|exact HB.out|apply bA|apply bN|apply bD|refine bS ?_ GE365.out)|exact HB.out)⟩
       ·rw [if_neg c19] at H
        have c19b0 : decide (t367 < (ji10)) = false:=decide_eq_false c19
        clear c19
        have H':=Am H
        clear H
        have hcz24_0 : wr.cell? ⟨gb365,0,none⟩ = some (.slice A0_0 l0_0.length c0_0):=(kC BK365.out 0).trans rfl
        have hcz24_1 : wr.cell? ⟨gb365,1,none⟩ = some (.slice A0_1 l0_1.length c0_1):=(kC BK365.out 1).trans rfl
        have hcz24_2 : wr.cell? ⟨gb365,2,none⟩ = some (.int .i64 a0_2):=(kC BK365.out 2).trans rfl
        have hcz24_3 : wr.cell? ⟨gb365,3,none⟩ = some (.int .i64 a0_3):=(kC BK365.out 3).trans rfl
        have hcz24_4 : wr.cell? ⟨gb365,4,none⟩ = some (.int .i64 a0_4):=(kC BK365.out 4).trans rfl
        have hfz24_0:=kF BK365.out 0
        have hfz24_1:=kF BK365.out 1
        have hfz24_2:=kF BK365.out 2
        have hfz24_3:=kF BK365.out 3
        have hfz24_4:=kF BK365.out 4
        go_wp2_with (first|((with_reducible refine gate_callee (f:=71) rfl ?_);refine goesL_ (some 25) rfl rfl Try.func71 (by kernel_rfl) rfl #[.agg #[.slice A0_0 l0_0.length c0_0,.slice A0_1 l0_1.length c0_1,.int .i64 a0_2,.int .i64 a0_3,.int .i64 a0_4],.int .i64 x7_1] rfl (by (try simp only [List.map_toArray,List.map_cons,List.map_nil]);first|done|rfl|(simp only [List.length_drop,List.length_take];rfl)) ?_;(with_reducible refine (impl_brakeAt.calls k1 _ _ l0_0 _ _ l0_1 a0_2 a0_3 a0_4 x7_1 t366 _ ?side1 ?side2 ?side3 ?side4 A9.out).mono ?_);(case side1 => repeat (first|exact (Kd.C_below HR0_0.out HB.out)|(with_reducible refine Kd.C_alloc ?_ _)|(with_reducible refine Kd.C_drewN ?_ _)|(with_reducible refine Kd.C_drew ?_)));(case side2 => exact HC0_0.out);(case side3 => repeat (first|exact (Kd.C_below HR0_1.out HB.out)|(with_reducible refine Kd.C_alloc ?_ _)|(with_reducible refine Kd.C_drewN ?_ _)|(with_reducible refine Kd.C_drew ?_)));(case side4 => exact HC0_1.out);rintro e w25 ⟨rfl,hb⟩;refine ⟨_,rfl,?_⟩;have n0_:=Am (blk_below (g:=gb365) (o:=.cells #[.slice A0_0 l0_0.length c0_0,.slice A0_1 l0_1.length c0_1,.int .i64 a0_2,.int .i64 a0_3,.int .i64 a0_4] 31 (0,0)) (by (with_reducible repeat (first|refine kN ?_ _|refine kD ?_|refine kA ?_ _));exact BK365.out) hb);have n1_:=Am (below_step (by repeat (first|(with_reducible first|exact HB.out|apply bA|apply bN|apply bD|refine bS ?_ GE365.out)|exact HB.out)) hb);clear BK365;clear HB;have BK365:=n0_;have HB:=n1_;clear n0_ n1_;(try clear hb);(try clear hb2);(try clear hk);(try clear hi);have hcz26_0 : w25.cell? ⟨gb365,0,none⟩ = some (.slice A0_0 l0_0.length c0_0):=(kC BK365.out 0).trans rfl;have hcz26_1 : w25.cell? ⟨gb365,1,none⟩ = some (.slice A0_1 l0_1.length c0_1):=(kC BK365.out 1).trans rfl;have hcz26_2 : w25.cell? ⟨gb365,2,none⟩ = some (.int .i64 a0_2):=(kC BK365.out 2).trans rfl;have hcz26_3 : w25.cell? ⟨gb365,3,none⟩ = some (.int .i64 a0_3):=(kC BK365.out 3).trans rfl;have hcz26_4 : w25.cell? ⟨gb365,4,none⟩ = some (.int .i64 a0_4):=(kC BK365.out 4).trans rfl;have hfz26_0:=kF BK365.out 0;have hfz26_1:=kF BK365.out 1;have hfz26_2:=kF BK365.out 2;have hfz26_3:=kF BK365.out 3;have hfz26_4:=kF BK365.out 4)|(go_at_call 69;(with_reducible refine (impl_touched.calls k1 _ _ l0_0 _ _ l0_1 a0_2 a0_3 a0_4 x1_1 (wrap64 (x1_1 + (ji10))) t367 _ ?side1 ?side2 ?side3 ?side4 A18.out).mono ?_);(case side1 => repeat (first|exact (Kd.C_below HR0_0.out HB.out)|(with_reducible refine Kd.C_alloc ?_ _)|(with_reducible refine Kd.C_drewN ?_ _)|(with_reducible refine Kd.C_drew ?_)));(case side2 => exact HC0_0.out);(case side3 => repeat (first|exact (Kd.C_below HR0_1.out HB.out)|(with_reducible refine Kd.C_alloc ?_ _)|(with_reducible refine Kd.C_drewN ?_ _)|(with_reducible refine Kd.C_drew ?_)));(case side4 => exact HC0_1.out);rintro e w27 ⟨rfl,hb⟩;have n0_:=Am (blk_below (g:=gb365) (o:=.cells #[.slice A0_0 l0_0.length c0_0,.slice A0_1 l0_1.length c0_1,.int .i64 a0_2,.int .i64 a0_3,.int .i64 a0_4] 31 (0,0)) (by (with_reducible repeat (first|refine kN ?_ _|refine kD ?_|refine kA ?_ _));exact BK365.out) hb);have n1_:=Am (below_step (by repeat (first|(with_reducible first|exact HB.out|apply bA|apply bN|apply bD|refine bS ?_ GE365.out)|exact HB.out)) hb);clear BK365;clear HB;have BK365:=n0_;have HB:=n1_;clear n0_ n1_;(try clear hb);(try clear hb2);(try clear hk);(try clear hi)))
        go_roundg k1
        case measure => have:=HK1.out;omega
        case rel => exact ⟨(wrap64 (x1_1 + (ji10))),(ji10),(x1_1),(wrap64 (x8_1 + 1)),(by first|rfl|(simp;done)|(simp only [← hji10] <;> (first|rfl|simp))|(simp [*];done)),(by first|rfl|(simp;done)|(simp only [← hji10] <;> (first|rfl|simp))|(simp [*];done)),(by first|rfl|(simp;done)|(simp [*];done)),(by first|rfl|(simp;done)|(simp [*];done)),H',⟨by have:=HK1.out;omega⟩,⟨by (with_reducible repeat (first|refine kN ?_ _|refine kD ?_|refine kA ?_ _));exact BK365.out⟩,⟨by repeat (first|(with_reducible first|exact HB.out|apply bA|apply bN|apply bD|refine bS ?_ GE365.out)|exact HB.out)⟩⟩
    ·rw [if_neg c8] at H
     have c8b0 : decide (a0_4 < x8_1) = false:=decide_eq_false c8
     clear c8
     by_cases c28 : (wrap64 (x1_1 + x2_1)) > a0_3
     ·rw [if_pos c28] at H
      have c28b0 : decide (a0_3 < (wrap64 (x1_1 + x2_1))) = true:=decide_eq_true c28
      clear c28
      obtain rfl:=Option.some.inj H
      have hcz29_0 : wr.cell? ⟨gb365,0,none⟩ = some (.slice A0_0 l0_0.length c0_0):=(kC BK365.out 0).trans rfl
      have hcz29_1 : wr.cell? ⟨gb365,1,none⟩ = some (.slice A0_1 l0_1.length c0_1):=(kC BK365.out 1).trans rfl
      have hcz29_2 : wr.cell? ⟨gb365,2,none⟩ = some (.int .i64 a0_2):=(kC BK365.out 2).trans rfl
      have hcz29_3 : wr.cell? ⟨gb365,3,none⟩ = some (.int .i64 a0_3):=(kC BK365.out 3).trans rfl
      have hcz29_4 : wr.cell? ⟨gb365,4,none⟩ = some (.int .i64 a0_4):=(kC BK365.out 4).trans rfl
      have hfz29_0:=kF BK365.out 0
      have hfz29_1:=kF BK365.out 1
      have hfz29_2:=kF BK365.out 2
      have hfz29_3:=kF BK365.out 3
      have hfz29_4:=kF BK365.out 4
      go_wp2
      go_ret
      exact ⟨by first|rfl|(simp [errW_none,errW_some] <;> rfl)|(simp [*,errW_none,errW_some] <;> rfl),by repeat (first|(with_reducible first|exact HB.out|apply bA|apply bN|apply bD|refine bS ?_ GE365.out)|exact HB.out)⟩
     ·rw [if_neg c28] at H
      have c28b0 : decide (a0_3 < (wrap64 (x1_1 + x2_1))) = false:=decide_eq_false c28
      clear c28
      replace H:=Option.bind_eq_some_iff.mp H
      obtain ⟨t368,A300,H⟩:=H
      replace H : (if x2_1 > t368 then (some false) else (impl_safe.l0 k1 (wrap64 (x1_1 + x2_1)) x2_1 x1_1 (wrap64 (x8_1 + 1)) l0_0 l0_1 a0_2 a0_3 a0_4)) = some r:=H
      have A30:=Am A300
      clear A300
      by_cases c31 : x2_1 > t368
      ·rw [if_pos c31] at H
       have c31b0 : decide (t368 < x2_1) = true:=decide_eq_true c31
       clear c31
       obtain rfl:=Option.some.inj H
       have hcz32_0 : wr.cell? ⟨gb365,0,none⟩ = some (.slice A0_0 l0_0.length c0_0):=(kC BK365.out 0).trans rfl
       have hcz32_1 : wr.cell? ⟨gb365,1,none⟩ = some (.slice A0_1 l0_1.length c0_1):=(kC BK365.out 1).trans rfl
       have hcz32_2 : wr.cell? ⟨gb365,2,none⟩ = some (.int .i64 a0_2):=(kC BK365.out 2).trans rfl
       have hcz32_3 : wr.cell? ⟨gb365,3,none⟩ = some (.int .i64 a0_3):=(kC BK365.out 3).trans rfl
       have hcz32_4 : wr.cell? ⟨gb365,4,none⟩ = some (.int .i64 a0_4):=(kC BK365.out 4).trans rfl
       have hfz32_0:=kF BK365.out 0
       have hfz32_1:=kF BK365.out 1
       have hfz32_2:=kF BK365.out 2
       have hfz32_3:=kF BK365.out 3
       have hfz32_4:=kF BK365.out 4
       go_wp2_with (first|(go_at_call 69;(with_reducible refine (impl_touched.calls k1 _ _ l0_0 _ _ l0_1 a0_2 a0_3 a0_4 x1_1 (wrap64 (x1_1 + x2_1)) t368 _ ?side1 ?side2 ?side3 ?side4 A30.out).mono ?_);(case side1 => repeat (first|exact (Kd.C_below HR0_0.out HB.out)|(with_reducible refine Kd.C_alloc ?_ _)|(with_reducible refine Kd.C_drewN ?_ _)|(with_reducible refine Kd.C_drew ?_)));(case side2 => exact HC0_0.out);(case side3 => repeat (first|exact (Kd.C_below HR0_1.out HB.out)|(with_reducible refine Kd.C_alloc ?_ _)|(with_reducible refine Kd.C_drewN ?_ _)|(with_reducible refine Kd.C_drew ?_)));(case side4 => exact HC0_1.out);rintro e w33 ⟨rfl,hb⟩;have n0_:=Am (blk_below (g:=gb365) (o:=.cells #[.slice A0_0 l0_0.length c0_0,.slice A0_1 l0_1.length c0_1,.int .i64 a0_2,.int .i64 a0_3,.int .i64 a0_4] 31 (0,0)) (by (with_reducible repeat (first|refine kN ?_ _|refine kD ?_|refine kA ?_ _));exact BK365.out) hb);have n1_:=Am (below_step (by repeat (first|(with_reducible first|exact HB.out|apply bA|apply bN|apply bD|refine bS ?_ GE365.out)|exact HB.out)) hb);clear BK365;clear HB;have BK365:=n0_;have HB:=n1_;clear n0_ n1_;(try clear hb);(try clear hb2);(try clear hk);(try clear hi)))
       go_ret
       exact ⟨by first|rfl|(simp [errW_none,errW_some] <;> rfl)|(simp [*,errW_none,errW_some] <;> rfl),by repeat (first|(with_reducible first|exact HB.out|apply bA|apply bN|apply bD|refine bS ?_ GE365.out)|exact HB.out)⟩
      ·rw [if_neg c31] at H
       have c31b0 : decide (t368 < x2_1) = false:=decide_eq_false c31
       clear c31
       have H':=Am H
       clear H
       have hcz34_0 : wr.cell? ⟨gb365,0,none⟩ = some (.slice A0_0 l0_0.length c0_0):=(kC BK365.out 0).trans rfl
       have hcz34_1 : wr.cell? ⟨gb365,1,none⟩ = some (.slice A0_1 l0_1.length c0_1):=(kC BK365.out 1).trans rfl
       have hcz34_2 : wr.cell? ⟨gb365,2,none⟩ = some (.int .i64 a0_2):=(kC BK365.out 2).trans rfl
       have hcz34_3 : wr.cell? ⟨gb365,3,none⟩ = some (.int .i64 a0_3):=(kC BK365.out 3).trans rfl
       have hcz34_4 : wr.cell? ⟨gb365,4,none⟩ = some (.int .i64 a0_4):=(kC BK365.out 4).trans rfl
       have hfz34_0:=kF BK365.out 0
       have hfz34_1:=kF BK365.out 1
       have hfz34_2:=kF BK365.out 2
       have hfz34_3:=kF BK365.out 3
       have hfz34_4:=kF BK365.out 4
       go_wp2_with (first|(go_at_call 69;(with_reducible refine (impl_touched.calls k1 _ _ l0_0 _ _ l0_1 a0_2 a0_3 a0_4 x1_1 (wrap64 (x1_1 + x2_1)) t368 _ ?side1 ?side2 ?side3 ?side4 A30.out).mono ?_);(case side1 => repeat (first|exact (Kd.C_below HR0_0.out HB.out)|(with_reducible refine Kd.C_alloc ?_ _)|(with_reducible refine Kd.C_drewN ?_ _)|(with_reducible refine Kd.C_drew ?_)));(case side2 => exact HC0_0.out);(case side3 => repeat (first|exact (Kd.C_below HR0_1.out HB.out)|(with_reducible refine Kd.C_alloc ?_ _)|(with_reducible refine Kd.C_drewN ?_ _)|(with_reducible refine Kd.C_drew ?_)));(case side4 => exact HC0_1.out);rintro e w35 ⟨rfl,hb⟩;have n0_:=Am (blk_below (g:=gb365) (o:=.cells #[.slice A0_0 l0_0.length c0_0,.slice A0_1 l0_1.length c0_1,.int .i64 a0_2,.int .i64 a0_3,.int .i64 a0_4] 31 (0,0)) (by (with_reducible repeat (first|refine kN ?_ _|refine kD ?_|refine kA ?_ _));exact BK365.out) hb);have n1_:=Am (below_step (by repeat (first|(with_reducible first|exact HB.out|apply bA|apply bN|apply bD|refine bS ?_ GE365.out)|exact HB.out)) hb);clear BK365;clear HB;have BK365:=n0_;have HB:=n1_;clear n0_ n1_;(try clear hb);(try clear hb2);(try clear hk);(try clear hi)))
       go_roundg k1
       case measure => have:=HK1.out;omega
       case rel => exact ⟨(wrap64 (x1_1 + x2_1)),(x2_1),(x1_1),(wrap64 (x8_1 + 1)),(by first|rfl|(simp;done)|(simp [*];done)),(by first|rfl|(simp;done)|(simp [*];done)),(by first|rfl|(simp;done)|(simp [*];done)),(by first|rfl|(simp;done)|(simp [*];done)),H',⟨by have:=HK1.out;omega⟩,⟨by (with_reducible repeat (first|refine kN ?_ _|refine kD ?_|refine kA ?_ _));exact BK365.out⟩,⟨by repeat (first|(with_reducible first|exact HB.out|apply bA|apply bN|apply bD|refine bS ?_ GE365.out)|exact HB.out)⟩⟩

end Go.Proofs.Ytgakkndbcilclaa.PA
