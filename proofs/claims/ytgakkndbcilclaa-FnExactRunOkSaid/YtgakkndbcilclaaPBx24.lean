-- Written by a program of this session (wip/print/myprint.py) over the kit's print, with contracts of its own; not a text of print.sh's.
import Derived.Test.YtgakkndbcilclaaPBx0
import Derived.Test.YtgakkndbcilclaaPBx13
import Derived.Test.YtgakkndbcilclaaPBx19
import Derived.Test.YtgakkndbcilclaaPBx20
import Derived.Test.YtgakkndbcilclaaPBx23
namespace Go.Proofs.Ytgakkndbcilclaa.PB
open Go.RowKit Go.Proofs.YtgakkndbcilclaaW.PrintWords Go.Proofs.YtgakkndbcilclaaW.PrintLast Go.Proofs.YtgakkndbcilclaaW.PrintMore
attribute [local go_sem] max2_int min2_int max_two min_two   -- for this text's walks alone
set_option linter.unusedVariables false
set_option linter.unusedSimpArgs false

/-! ### impl_RunOk: function 29 -/
mutual
def impl_RunOk.j0 : Nat → Int → Int → Int → List Int → Bool → List (S71) → List (S75) → Int → Int → Int → Option (Bool)
 | 0,_,_,_,_,_,_,_,_,_,_ => none
 | k + 1,x1,x2,x3,x4,x24,x225000,x225001,x225002,x225003,x225004 => if x24 = true then (some false) else (impl_RunOk.l0 k x1 x2 x3 0 x4 (x4.length : Int) 0 x225000 x225001 x225002 x225003 x225004)
def impl_RunOk.l0 : Nat → Int → Int → Int → Int → List Int → Int → Int → List (S71) → List (S75) → Int → Int → Int → Option (Bool)
 | 0,_,_,_,_,_,_,_,_,_,_,_,_ => none
 | k + 1,x1,x2,x3,x11,x25,x26,x27,x225000,x225001,x225002,x225003,x225004 => if x27 < x26 then (if 0 ≤ x27 then (if x27 < (x25.length : Int) then (if (rd x25 x27) > (wrap64 (x11 + x1)) then (some false) else ((impl_brakeAt.f k x225000 x225001 x225002 x225003 x225004 x2).bind fun t227 => (if (rd x25 x27) < (wrap64 (x11 - t227)) then (some false) else (if (rd x25 x27) < 0 then (some false) else (if (rd x25 x27) > 60 then (some false) else (if (wrap64 (x2 + (rd x25 x27))) > x225003 then (some false) else (if (rd x25 x27) > 0 then ((impl_touched.f k x225000 x225001 x225002 x225003 x225004 x2 (wrap64 (x2 + (rd x25 x27)))).bind fun t228 => (if (rd x25 x27) > t228 then (some false) else (impl_RunOk.l0 k x1 (wrap64 (x2 + (rd x25 x27))) x3 (rd x25 x27) x25 x26 (wrap64 (x27 + 1)) x225000 x225001 x225002 x225003 x225004))) else (impl_RunOk.l0 k x1 (wrap64 (x2 + (rd x25 x27))) x3 (rd x25 x27) x25 x26 (wrap64 (x27 + 1)) x225000 x225001 x225002 x225003 x225004)))))))) else (none)) else (none)) else (if x11 = 0 then (some (decide ((wrap64 (x225003 - x2)) ≤ x3))) else (some false))
end
def impl_RunOk.f (k : Nat) (l0_0 : List (S71)) (l0_1 : List (S75)) (a0_2 : Int) (a0_3 : Int) (a0_4 : Int) (a1 : Int) (a2 : Int) (a3 : Int) (l4 : List Int) : Option (Bool):=(impl_asked.f l0_0 l0_1 a0_2 a0_3 a0_4 a1 a2 a3).bind fun t225 => (if t225 = true then (impl_RunOk.j0 k a1 a2 a3 l4 (decide ((l4.length : Int) > 2000)) l0_0 l0_1 a0_2 a0_3 a0_4) else (impl_RunOk.j0 k a1 a2 a3 l4 true l0_0 l0_1 a0_2 a0_3 a0_4))
theorem impl_RunOk.mono_l : ∀ k,(∀ y0 y1 y2 y3 y4 y5 y6 y7 y8 y9,LeO (impl_RunOk.j0 k y0 y1 y2 y3 y4 y5 y6 y7 y8 y9) (impl_RunOk.j0 (k + 1) y0 y1 y2 y3 y4 y5 y6 y7 y8 y9))∧(∀ y0 y1 y2 y3 y4 y5 y6 y7 y8 y9 y10 y11,LeO (impl_RunOk.l0 k y0 y1 y2 y3 y4 y5 y6 y7 y8 y9 y10 y11) (impl_RunOk.l0 (k + 1) y0 y1 y2 y3 y4 y5 y6 y7 y8 y9 y10 y11))
 | 0 => ⟨fun _ _ _ _ _ _ _ _ _ _ r h => by simp [impl_RunOk.j0] at h,fun _ _ _ _ _ _ _ _ _ _ _ _ r h => by simp [impl_RunOk.l0] at h⟩
 | k + 1 => by
  obtain ⟨ih0,ih1⟩:=impl_RunOk.mono_l k
  refine ⟨?_,?_⟩
  ·intro y0 y1 y2 y3 y4 y5 y6 y7 y8 y9
   unfold impl_RunOk.j0
   repeat' first
   | (with_reducible exact ih0 _ _ _ _ _ _ _ _ _ _)
   | (with_reducible exact ih1 _ _ _ _ _ _ _ _ _ _ _ _)
   | (with_reducible exact impl_brakeAt.mono _ _ _ _ _ _ _)
   | (with_reducible exact impl_touched.mono _ _ _ _ _ _ _ _)
   | (with_reducible exact LeO.refl _)
   | (with_reducible exact LeO.none _)
   | (with_reducible refine LeO.ite ?_ ?_)
   | (with_reducible refine LeO.bind ?_ (fun _ => ?_))
   | exact ih0 _ _ _ _ _ _ _ _ _ _
   | exact ih1 _ _ _ _ _ _ _ _ _ _ _ _
   | exact impl_brakeAt.mono _ _ _ _ _ _ _
   | exact impl_touched.mono _ _ _ _ _ _ _ _
   | exact LeO.none _
   | refine LeO.ite ?_ ?_
   | refine LeO.bind ?_ (fun _ => ?_)
  ·intro y0 y1 y2 y3 y4 y5 y6 y7 y8 y9 y10 y11
   unfold impl_RunOk.l0
   repeat' first
   | (with_reducible exact ih0 _ _ _ _ _ _ _ _ _ _)
   | (with_reducible exact ih1 _ _ _ _ _ _ _ _ _ _ _ _)
   | (with_reducible exact impl_brakeAt.mono _ _ _ _ _ _ _)
   | (with_reducible exact impl_touched.mono _ _ _ _ _ _ _ _)
   | (with_reducible exact LeO.refl _)
   | (with_reducible exact LeO.none _)
   | (with_reducible refine LeO.ite ?_ ?_)
   | (with_reducible refine LeO.bind ?_ (fun _ => ?_))
   | exact ih0 _ _ _ _ _ _ _ _ _ _
   | exact ih1 _ _ _ _ _ _ _ _ _ _ _ _
   | exact impl_brakeAt.mono _ _ _ _ _ _ _
   | exact impl_touched.mono _ _ _ _ _ _ _ _
   | exact LeO.none _
   | refine LeO.ite ?_ ?_
   | refine LeO.bind ?_ (fun _ => ?_)
theorem impl_RunOk.mono : ∀ a0 a1 a2 a3 a4 a5 a6 a7 a8 k,LeO (impl_RunOk.f k a0 a1 a2 a3 a4 a5 a6 a7 a8) (impl_RunOk.f (k + 1) a0 a1 a2 a3 a4 a5 a6 a7 a8):=by
 intro a0 a1 a2 a3 a4 a5 a6 a7 a8 k
 obtain ⟨ih0,ih1⟩:=impl_RunOk.mono_l k
 unfold impl_RunOk.f
 repeat' first
   | (with_reducible exact ih0 _ _ _ _ _ _ _ _ _ _)
   | (with_reducible exact ih1 _ _ _ _ _ _ _ _ _ _ _ _)
   | (with_reducible exact impl_brakeAt.mono _ _ _ _ _ _ _)
   | (with_reducible exact impl_touched.mono _ _ _ _ _ _ _ _)
   | (with_reducible exact LeO.refl _)
   | (with_reducible exact LeO.none _)
   | (with_reducible refine LeO.ite ?_ ?_)
   | (with_reducible refine LeO.bind ?_ (fun _ => ?_))
   | exact ih0 _ _ _ _ _ _ _ _ _ _
   | exact ih1 _ _ _ _ _ _ _ _ _ _ _ _
   | exact impl_brakeAt.mono _ _ _ _ _ _ _
   | exact impl_touched.mono _ _ _ _ _ _ _ _
   | exact LeO.none _
   | refine LeO.ite ?_ ?_
   | refine LeO.bind ?_ (fun _ => ?_)
set_option maxHeartbeats 8000000 in
set_option maxRecDepth 100000 in
theorem impl_RunOk.calls (k : Nat) (A0_0 : Option Addr) (c0_0 : Nat) (l0_0 : List (S71)) (A0_1 : Option Addr) (c0_1 : Nat) (l0_1 : List (S75)) (a0_2 : Int) (a0_3 : Int) (a0_4 : Int) (a1 : Int) (a2 : Int) (a3 : Int) (A4 : Option Addr) (c4 : Nat) (l4 : List Int) (r : Bool) (w : World) (hr0_0 : Kd.C k71 w A0_0 l0_0.length l0_0) (hc0_0 : l0_0.length ≤ c0_0) (hr0_1 : Kd.C k75 w A0_1 l0_1.length l0_1) (hc0_1 : l0_1.length ≤ c0_1) (hr4 : Kd.C (Kd.int .i64) w A4 l4.length l4) (hc4 : l4.length ≤ c4) (h : impl_RunOk.f k l0_0 l0_1 a0_2 a0_3 a0_4 a1 a2 a3 l4 = some r) :
  Calls Try.prog 29 #[.agg #[.slice A0_0 l0_0.length c0_0,.slice A0_1 l0_1.length c0_1,.int .i64 a0_2,.int .i64 a0_3,.int .i64 a0_4],.int .i64 a1,.int .i64 a2,.int .i64 a3,.slice A4 l4.length c4] w fun e w' => e = .returned (.bool r)∧Below w.heap.size w w':=by
 have hu31:=Try.underlying31
 have HR0_0:=Am hr0_0
 have HC0_0:=Am hc0_0
 clear hr0_0 hc0_0
 have HR0_1:=Am hr0_1
 have HC0_1:=Am hc0_1
 clear hr0_1 hc0_1
 have HR4:=Am hr4
 have HC4:=Am hc4
 clear hr4 hc4
 have HB:=Am (Below.refl w.heap.size w)
 have H : ((impl_asked.f l0_0 l0_1 a0_2 a0_3 a0_4 a1 a2 a3).bind fun t225 => (if t225 = true then (impl_RunOk.j0 k a1 a2 a3 l4 (decide ((l4.length : Int) > 2000)) l0_0 l0_1 a0_2 a0_3 a0_4) else (impl_RunOk.j0 k a1 a2 a3 l4 true l0_0 l0_1 a0_2 a0_3 a0_4))) = some r:=h
 clear h
 have HC6:=Am H
 clear H
 go_enter Try.func29,Try.ntmps29
 go_upto_region 1 with (first|((with_reducible refine gate_dst (N:=5) rfl ?_);(try (refine gate_guard (by rfl) ?_;dsimp only));refine box_event ?hg (N:=5) ?hd (cs:=#[.slice A0_0 l0_0.length c0_0,.slice A0_1 l0_1.length c0_1,.int .i64 a0_2,.int .i64 a0_3,.int .i64 a0_4]) (t:=31) ?hr ?_;(case hd => rfl);(case hg => rfl);(case hr => first|(go_simp;done)|(go_simp;rfl));intro gb224 hg w7 hbox hb;have n0_:=Am (below_step (by repeat (first|(with_reducible first|exact HB.out|apply bA|apply bN|apply bD)|exact HB.out)) hb);have n1_:=Am (hbox);have n2_:=Am ((by rw [hg];exact (below_size (by repeat (first|(with_reducible first|exact HB.out|apply bA|apply bN|apply bD)|exact HB.out))) : w.heap.size ≤ gb224));have n3_:=Am ((by rw [hg];exact (below_size (by repeat (first|(with_reducible first|exact HB.out|apply bA|apply bN|apply bD)|exact HB.out))) : w.heap.size ≤ gb224));clear HB;have HB:=n0_;have BK224:=n1_;have GW224:=n2_;have GE224:=n3_;clear n0_ n1_ n2_ n3_;clear hb hbox hg))
 (try simp only [Act.put,List.setIfInBounds_toArray,List.set_cons_zero,List.set_cons_succ])
 go_cut [24] (fun v24 wc => ∃ (kq : Nat) (x24_5 : Bool),v24 = .bool x24_5∧As (impl_RunOk.j0 kq a1 a2 a3 l4 x24_5 l0_0 l0_1 a0_2 a0_3 a0_4 = some r)∧As (kq ≤ k)∧As (wc.heap[gb224]? = some (.cells #[(.slice A0_0 l0_0.length c0_0),(.slice A0_1 l0_1.length c0_1),.int .i64 a0_2,.int .i64 a0_3,.int .i64 a0_4] 31 (0,0)))∧As (Below w.heap.size w wc))
 case first =>
  have H:=HC6.out
  clear HC6
  replace H:=Option.bind_eq_some_iff.mp H
  obtain ⟨t225,A80,H⟩:=H
  replace H : (if t225 = true then (impl_RunOk.j0 k a1 a2 a3 l4 (decide ((l4.length : Int) > 2000)) l0_0 l0_1 a0_2 a0_3 a0_4) else (impl_RunOk.j0 k a1 a2 a3 l4 true l0_0 l0_1 a0_2 a0_3 a0_4)) = some r:=H
  have A8:=Am A80
  clear A80
  by_cases c9 : t225 = true
  ·subst c9
   have H1 : (impl_RunOk.j0 k a1 a2 a3 l4 (decide ((l4.length : Int) > 2000)) l0_0 l0_1 a0_2 a0_3 a0_4) = some r:=by rw [if_pos rfl] at H;exact H
   clear H
   have H:=H1
   clear H1
   have H':=Am H
   clear H
   have hcz10_0 : w7.cell? ⟨gb224,0,none⟩ = some (.slice A0_0 l0_0.length c0_0):=(kC BK224.out 0).trans rfl
   have hcz10_1 : w7.cell? ⟨gb224,1,none⟩ = some (.slice A0_1 l0_1.length c0_1):=(kC BK224.out 1).trans rfl
   have hcz10_2 : w7.cell? ⟨gb224,2,none⟩ = some (.int .i64 a0_2):=(kC BK224.out 2).trans rfl
   have hcz10_3 : w7.cell? ⟨gb224,3,none⟩ = some (.int .i64 a0_3):=(kC BK224.out 3).trans rfl
   have hcz10_4 : w7.cell? ⟨gb224,4,none⟩ = some (.int .i64 a0_4):=(kC BK224.out 4).trans rfl
   have hfz10_0:=kF BK224.out 0
   have hfz10_1:=kF BK224.out 1
   have hfz10_2:=kF BK224.out 2
   have hfz10_3:=kF BK224.out 3
   have hfz10_4:=kF BK224.out 4
   go_wp2_with (first|((with_reducible refine gate_callee (f:=84) rfl ?_);refine goesL_ (some 18) rfl rfl Try.func84 (by kernel_rfl) rfl #[.agg #[.slice A0_0 l0_0.length c0_0,.slice A0_1 l0_1.length c0_1,.int .i64 a0_2,.int .i64 a0_3,.int .i64 a0_4],.int .i64 a1,.int .i64 a2,.int .i64 a3] rfl (by (try simp only [List.map_toArray,List.map_cons,List.map_nil]);first|done|rfl|(simp only [List.length_drop,List.length_take];rfl)) ?_;(with_reducible refine (impl_asked.calls _ _ l0_0 _ _ l0_1 a0_2 a0_3 a0_4 a1 a2 a3 true _ ?side1 ?side2 ?side3 ?side4 A8.out).mono ?_);(case side1 => repeat (first|exact (Kd.C_below HR0_0.out HB.out)|(with_reducible refine Kd.C_alloc ?_ _)|(with_reducible refine Kd.C_drewN ?_ _)|(with_reducible refine Kd.C_drew ?_)));(case side2 => exact HC0_0.out);(case side3 => repeat (first|exact (Kd.C_below HR0_1.out HB.out)|(with_reducible refine Kd.C_alloc ?_ _)|(with_reducible refine Kd.C_drewN ?_ _)|(with_reducible refine Kd.C_drew ?_)));(case side4 => exact HC0_1.out);rintro e w11 ⟨rfl,hb⟩;refine ⟨_,rfl,?_⟩;have n0_:=Am (blk_below (g:=gb224) (o:=.cells #[.slice A0_0 l0_0.length c0_0,.slice A0_1 l0_1.length c0_1,.int .i64 a0_2,.int .i64 a0_3,.int .i64 a0_4] 31 (0,0)) (by (with_reducible repeat (first|refine kN ?_ _|refine kD ?_|refine kA ?_ _));exact BK224.out) hb);have n1_:=Am (below_step (by repeat (first|(with_reducible first|exact HB.out|apply bA|apply bN|apply bD|refine bS ?_ GE224.out)|exact HB.out)) hb);clear BK224;clear HB;have BK224:=n0_;have HB:=n1_;clear n0_ n1_;(try clear hb);(try clear hb2);(try clear hk);(try clear hi)))
   go_meet
   case rel => exact ⟨_,(decide ((l4.length : Int) > 2000)),(by first|rfl|(simp;done)|(simp [*];done)),H',⟨by first|omega|exact Nat.le_refl _⟩,⟨by (with_reducible repeat (first|refine kN ?_ _|refine kD ?_|refine kA ?_ _));exact BK224.out⟩,⟨by repeat (first|(with_reducible first|exact HB.out|apply bA|apply bN|apply bD|refine bS ?_ GE224.out)|exact HB.out)⟩⟩
  ·replace c9:=Bool.eq_false_iff.mpr c9
   subst c9
   have H1 : (impl_RunOk.j0 k a1 a2 a3 l4 true l0_0 l0_1 a0_2 a0_3 a0_4) = some r:=by rw [if_neg (show ¬ (false = true) by decide)] at H;exact H
   clear H
   have H:=H1
   clear H1
   have H':=Am H
   clear H
   have hcz12_0 : w7.cell? ⟨gb224,0,none⟩ = some (.slice A0_0 l0_0.length c0_0):=(kC BK224.out 0).trans rfl
   have hcz12_1 : w7.cell? ⟨gb224,1,none⟩ = some (.slice A0_1 l0_1.length c0_1):=(kC BK224.out 1).trans rfl
   have hcz12_2 : w7.cell? ⟨gb224,2,none⟩ = some (.int .i64 a0_2):=(kC BK224.out 2).trans rfl
   have hcz12_3 : w7.cell? ⟨gb224,3,none⟩ = some (.int .i64 a0_3):=(kC BK224.out 3).trans rfl
   have hcz12_4 : w7.cell? ⟨gb224,4,none⟩ = some (.int .i64 a0_4):=(kC BK224.out 4).trans rfl
   have hfz12_0:=kF BK224.out 0
   have hfz12_1:=kF BK224.out 1
   have hfz12_2:=kF BK224.out 2
   have hfz12_3:=kF BK224.out 3
   have hfz12_4:=kF BK224.out 4
   go_wp2_with (first|((with_reducible refine gate_callee (f:=84) rfl ?_);refine goesL_ (some 18) rfl rfl Try.func84 (by kernel_rfl) rfl #[.agg #[.slice A0_0 l0_0.length c0_0,.slice A0_1 l0_1.length c0_1,.int .i64 a0_2,.int .i64 a0_3,.int .i64 a0_4],.int .i64 a1,.int .i64 a2,.int .i64 a3] rfl (by (try simp only [List.map_toArray,List.map_cons,List.map_nil]);first|done|rfl|(simp only [List.length_drop,List.length_take];rfl)) ?_;(with_reducible refine (impl_asked.calls _ _ l0_0 _ _ l0_1 a0_2 a0_3 a0_4 a1 a2 a3 false _ ?side1 ?side2 ?side3 ?side4 A8.out).mono ?_);(case side1 => repeat (first|exact (Kd.C_below HR0_0.out HB.out)|(with_reducible refine Kd.C_alloc ?_ _)|(with_reducible refine Kd.C_drewN ?_ _)|(with_reducible refine Kd.C_drew ?_)));(case side2 => exact HC0_0.out);(case side3 => repeat (first|exact (Kd.C_below HR0_1.out HB.out)|(with_reducible refine Kd.C_alloc ?_ _)|(with_reducible refine Kd.C_drewN ?_ _)|(with_reducible refine Kd.C_drew ?_)));(case side4 => exact HC0_1.out);rintro e w13 ⟨rfl,hb⟩;refine ⟨_,rfl,?_⟩;have n0_:=Am (blk_below (g:=gb224) (o:=.cells #[.slice A0_0 l0_0.length c0_0,.slice A0_1 l0_1.length c0_1,.int .i64 a0_2,.int .i64 a0_3,.int .i64 a0_4] 31 (0,0)) (by (with_reducible repeat (first|refine kN ?_ _|refine kD ?_|refine kA ?_ _));exact BK224.out) hb);have n1_:=Am (below_step (by repeat (first|(with_reducible first|exact HB.out|apply bA|apply bN|apply bD|refine bS ?_ GE224.out)|exact HB.out)) hb);clear BK224;clear HB;have BK224:=n0_;have HB:=n1_;clear n0_ n1_;(try clear hb);(try clear hb2);(try clear hk);(try clear hi)))
   go_meet
   case rel => exact ⟨_,(true),(by first|rfl|(simp;done)|(simp [*];done)),H',⟨by first|omega|exact Nat.le_refl _⟩,⟨by (with_reducible repeat (first|refine kN ?_ _|refine kD ?_|refine kA ?_ _));exact BK224.out⟩,⟨by repeat (first|(with_reducible first|exact HB.out|apply bA|apply bN|apply bD|refine bS ?_ GE224.out)|exact HB.out)⟩⟩
 case rest =>
  clear HC6
  try clear c2
  try clear p2
  try clear c4
  try clear c8
  try clear c9
  try clear hcz10_0
  try clear hcz10_1
  try clear hcz10_2
  try clear hcz10_3
  try clear hcz10_4
  try clear hcz12_0
  try clear hcz12_1
  try clear hcz12_2
  try clear hcz12_3
  try clear hcz12_4
  try clear hfz10_0
  try clear hfz10_1
  try clear hfz10_2
  try clear hfz10_3
  try clear hfz10_4
  try clear hfz12_0
  try clear hfz12_1
  try clear hfz12_2
  try clear hfz12_3
  try clear hfz12_4
  obtain ⟨kq,x24_5,rfl,HA,HJ5,BK224,HB⟩:=hcut
  cases kq with
  | zero => exact absurd HA.out (by simp [impl_RunOk.j0])
  | succ kj5 =>
   have H:=HA.out
   clear HA
   simp only [impl_RunOk.j0] at H
   by_cases c14 : x24_5 = true
   ·subst c14
    have H1 : (some false) = some r:=by rw [if_pos rfl] at H;exact H
    clear H
    have H:=H1
    clear H1
    obtain rfl:=Option.some.inj H
    go_wp2
    go_ret
    exact ⟨by first|rfl|(simp [errW_none,errW_some] <;> rfl)|(simp [*,errW_none,errW_some] <;> rfl),by repeat (first|(with_reducible first|exact HB.out|apply bA|apply bN|apply bD|refine bS ?_ GE224.out)|exact HB.out)⟩
   ·replace c14:=Bool.eq_false_iff.mpr c14
    subst c14
    have H1 : (impl_RunOk.l0 kj5 a1 a2 a3 0 l4 (l4.length : Int) 0 l0_0 l0_1 a0_2 a0_3 a0_4) = some r:=by rw [if_neg (show ¬ (false = true) by decide)] at H;exact H
    clear H
    have H:=H1
    clear H1
    have H':=Am H
    clear H
    go_wp2
    go_loopg [2,11,27] kj5 (fun kq v2 v11 v27 w' => ∃ (x2_2 : Int) (x11_2 : Int) (x27_2 : Int),v2 = .int .i64 x2_2∧v11 = .int .i64 x11_2∧v27 = .int .i64 x27_2∧As (impl_RunOk.l0 kq a1 x2_2 a3 x11_2 l4 (l4.length : Int) x27_2 l0_0 l0_1 a0_2 a0_3 a0_4 = some r)∧As (kq ≤ kj5)∧As (w'.heap[gb224]? = some (.cells #[(.slice A0_0 l0_0.length c0_0),(.slice A0_1 l0_1.length c0_1),.int .i64 a0_2,.int .i64 a0_3,.int .i64 a0_4] 31 (0,0)))∧As (Below w.heap.size w w'))
    case atStart => exact ⟨(a2),(0),(0),(by first|rfl|(simp;done)|(simp [*];done)),(by first|rfl|(simp;done)|(simp [*];done)),(by first|rfl|(simp;done)|(simp [*];done)),H',⟨Nat.le_refl _⟩,⟨by (with_reducible repeat (first|refine kN ?_ _|refine kD ?_|refine kA ?_ _));exact BK224.out⟩,⟨by repeat (first|(with_reducible first|exact HB.out|apply bA|apply bN|apply bD|refine bS ?_ GE224.out)|exact HB.out)⟩⟩
    case round =>
     clear H'
     try clear c1
     try clear c2
     try clear p2
     try clear c4
     try clear c8
     try clear c9
     try clear c14
     try clear hcz10_0
     try clear hcz10_1
     try clear hcz10_2
     try clear hcz10_3
     try clear hcz10_4
     try clear hcz12_0
     try clear hcz12_1
     try clear hcz12_2
     try clear hcz12_3
     try clear hcz12_4
     try clear hfz10_0
     try clear hfz10_1
     try clear hfz10_2
     try clear hfz10_3
     try clear hfz10_4
     try clear hfz12_0
     try clear hfz12_1
     try clear hfz12_2
     try clear hfz12_3
     try clear hfz12_4
     try clear p2
     obtain ⟨x2_2,x11_2,x27_2,rfl,rfl,rfl,HA,HK2,BK224,HB⟩:=hrel
     cases gk with
     | zero => exact absurd HA.out (by simp [impl_RunOk.l0])
     | succ k2 =>
      have H:=HA.out
      clear HA
      simp only [impl_RunOk.l0] at H
      by_cases c15 : x27_2 < (l4.length : Int)
      ·rw [if_pos c15] at H
       have c15b0 : decide (x27_2 < (l4.length : Int)) = true:=decide_eq_true c15
       clear c15
       by_cases c16 : 0 ≤ x27_2
       ·rw [if_pos c16] at H
        have c16b0 : decide (0 ≤ x27_2) = true:=decide_eq_true c16
        clear c16
        by_cases c17 : x27_2 < (l4.length : Int)
        ·rw [if_pos c17] at H
         have c17b0 : decide (x27_2 < (l4.length : Int)) = true:=decide_eq_true c17
         clear c17
         by_cases c18 : (rd l4 x27_2) > (wrap64 (x11_2 + a1))
         ·rw [if_pos c18] at H
          have c18b0 : decide ((wrap64 (x11_2 + a1)) < (rd l4 x27_2)) = true:=decide_eq_true c18
          clear c18
          obtain rfl:=Option.some.inj H
          have p226 : 0 ≤ (x27_2 : Int):=of_decide_eq_true (by first|(with_reducible assumption)|assumption)
          have q226 : x27_2 < (l4.length : Int):=of_decide_eq_true (by first|(with_reducible assumption)|assumption)
          obtain ⟨ad226,e226,hx226_0⟩:=Kd.at_int HR4.out x27_2 p226 q226
          cases e226
          replace hx226_0:=(HB.out.cell (World.block_lt_of_cell? w _ hx226_0)).trans hx226_0
          replace p226:=eq_true p226
          replace q226:=eq_true q226
          go_wp2
          go_ret
          exact ⟨by first|rfl|(simp [errW_none,errW_some] <;> rfl)|(simp [*,errW_none,errW_some] <;> rfl),by repeat (first|(with_reducible first|exact HB.out|apply bA|apply bN|apply bD|refine bS ?_ GE224.out)|exact HB.out)⟩
         ·rw [if_neg c18] at H
          have c18b0 : decide ((wrap64 (x11_2 + a1)) < (rd l4 x27_2)) = false:=decide_eq_false c18
          clear c18
          replace H:=Option.bind_eq_some_iff.mp H
          obtain ⟨t227,A190,H⟩:=H
          replace H : (if (rd l4 x27_2) < (wrap64 (x11_2 - t227)) then (some false) else (if (rd l4 x27_2) < 0 then (some false) else (if (rd l4 x27_2) > 60 then (some false) else (if (wrap64 (x2_2 + (rd l4 x27_2))) > a0_3 then (some false) else (if (rd l4 x27_2) > 0 then ((impl_touched.f k2 l0_0 l0_1 a0_2 a0_3 a0_4 x2_2 (wrap64 (x2_2 + (rd l4 x27_2)))).bind fun t228 => (if (rd l4 x27_2) > t228 then (some false) else (impl_RunOk.l0 k2 a1 (wrap64 (x2_2 + (rd l4 x27_2))) a3 (rd l4 x27_2) l4 (l4.length : Int) (wrap64 (x27_2 + 1)) l0_0 l0_1 a0_2 a0_3 a0_4))) else (impl_RunOk.l0 k2 a1 (wrap64 (x2_2 + (rd l4 x27_2))) a3 (rd l4 x27_2) l4 (l4.length : Int) (wrap64 (x27_2 + 1)) l0_0 l0_1 a0_2 a0_3 a0_4)))))) = some r:=H
          have A19:=Am A190
          clear A190
          by_cases c20 : (rd l4 x27_2) < (wrap64 (x11_2 - t227))
          ·rw [if_pos c20] at H
           have c20b0 : decide ((rd l4 x27_2) < (wrap64 (x11_2 - t227))) = true:=decide_eq_true c20
           clear c20
           obtain rfl:=Option.some.inj H
           have p226 : 0 ≤ (x27_2 : Int):=of_decide_eq_true (by first|(with_reducible assumption)|assumption)
           have q226 : x27_2 < (l4.length : Int):=of_decide_eq_true (by first|(with_reducible assumption)|assumption)
           obtain ⟨ad226,e226,hx226_0⟩:=Kd.at_int HR4.out x27_2 p226 q226
           cases e226
           replace hx226_0:=(HB.out.cell (World.block_lt_of_cell? w _ hx226_0)).trans hx226_0
           replace p226:=eq_true p226
           replace q226:=eq_true q226
           have hcz21_0 : wr.cell? ⟨gb224,0,none⟩ = some (.slice A0_0 l0_0.length c0_0):=(kC BK224.out 0).trans rfl
           have hcz21_1 : wr.cell? ⟨gb224,1,none⟩ = some (.slice A0_1 l0_1.length c0_1):=(kC BK224.out 1).trans rfl
           have hcz21_2 : wr.cell? ⟨gb224,2,none⟩ = some (.int .i64 a0_2):=(kC BK224.out 2).trans rfl
           have hcz21_3 : wr.cell? ⟨gb224,3,none⟩ = some (.int .i64 a0_3):=(kC BK224.out 3).trans rfl
           have hcz21_4 : wr.cell? ⟨gb224,4,none⟩ = some (.int .i64 a0_4):=(kC BK224.out 4).trans rfl
           have hfz21_0:=kF BK224.out 0
           have hfz21_1:=kF BK224.out 1
           have hfz21_2:=kF BK224.out 2
           have hfz21_3:=kF BK224.out 3
           have hfz21_4:=kF BK224.out 4
           go_wp2_with (first|(go_at_call 71;(with_reducible refine (impl_brakeAt.calls k2 _ _ l0_0 _ _ l0_1 a0_2 a0_3 a0_4 x2_2 t227 _ ?side1 ?side2 ?side3 ?side4 A19.out).mono ?_);(case side1 => repeat (first|exact (Kd.C_below HR0_0.out HB.out)|(with_reducible refine Kd.C_alloc ?_ _)|(with_reducible refine Kd.C_drewN ?_ _)|(with_reducible refine Kd.C_drew ?_)));(case side2 => exact HC0_0.out);(case side3 => repeat (first|exact (Kd.C_below HR0_1.out HB.out)|(with_reducible refine Kd.C_alloc ?_ _)|(with_reducible refine Kd.C_drewN ?_ _)|(with_reducible refine Kd.C_drew ?_)));(case side4 => exact HC0_1.out);rintro e w22 ⟨rfl,hb⟩;have n0_:=Am (blk_below (g:=gb224) (o:=.cells #[.slice A0_0 l0_0.length c0_0,.slice A0_1 l0_1.length c0_1,.int .i64 a0_2,.int .i64 a0_3,.int .i64 a0_4] 31 (0,0)) (by (with_reducible repeat (first|refine kN ?_ _|refine kD ?_|refine kA ?_ _));exact BK224.out) hb);have n1_:=Am (below_step (by repeat (first|(with_reducible first|exact HB.out|apply bA|apply bN|apply bD|refine bS ?_ GE224.out)|exact HB.out)) hb);clear BK224;clear HB;have BK224:=n0_;have HB:=n1_;clear n0_ n1_;(try clear hb);(try clear hb2);(try clear hk);(try clear hi)))
           go_ret
           exact ⟨by first|rfl|(simp [errW_none,errW_some] <;> rfl)|(simp [*,errW_none,errW_some] <;> rfl),by repeat (first|(with_reducible first|exact HB.out|apply bA|apply bN|apply bD|refine bS ?_ GE224.out)|exact HB.out)⟩
          ·rw [if_neg c20] at H
           have c20b0 : decide ((rd l4 x27_2) < (wrap64 (x11_2 - t227))) = false:=decide_eq_false c20
           clear c20
           by_cases c23 : (rd l4 x27_2) < 0
           ·rw [if_pos c23] at H
            have c23b0 : decide ((rd l4 x27_2) < 0) = true:=decide_eq_true c23
            clear c23
            obtain rfl:=Option.some.inj H
            have p226 : 0 ≤ (x27_2 : Int):=of_decide_eq_true (by first|(with_reducible assumption)|assumption)
            have q226 : x27_2 < (l4.length : Int):=of_decide_eq_true (by first|(with_reducible assumption)|assumption)
            obtain ⟨ad226,e226,hx226_0⟩:=Kd.at_int HR4.out x27_2 p226 q226
            cases e226
            replace hx226_0:=(HB.out.cell (World.block_lt_of_cell? w _ hx226_0)).trans hx226_0
            replace p226:=eq_true p226
            replace q226:=eq_true q226
            have hcz24_0 : wr.cell? ⟨gb224,0,none⟩ = some (.slice A0_0 l0_0.length c0_0):=(kC BK224.out 0).trans rfl
            have hcz24_1 : wr.cell? ⟨gb224,1,none⟩ = some (.slice A0_1 l0_1.length c0_1):=(kC BK224.out 1).trans rfl
            have hcz24_2 : wr.cell? ⟨gb224,2,none⟩ = some (.int .i64 a0_2):=(kC BK224.out 2).trans rfl
            have hcz24_3 : wr.cell? ⟨gb224,3,none⟩ = some (.int .i64 a0_3):=(kC BK224.out 3).trans rfl
            have hcz24_4 : wr.cell? ⟨gb224,4,none⟩ = some (.int .i64 a0_4):=(kC BK224.out 4).trans rfl
            have hfz24_0:=kF BK224.out 0
            have hfz24_1:=kF BK224.out 1
            have hfz24_2:=kF BK224.out 2
            have hfz24_3:=kF BK224.out 3
            have hfz24_4:=kF BK224.out 4
            go_wp2_with (first|(go_at_call 71;(with_reducible refine (impl_brakeAt.calls k2 _ _ l0_0 _ _ l0_1 a0_2 a0_3 a0_4 x2_2 t227 _ ?side1 ?side2 ?side3 ?side4 A19.out).mono ?_);(case side1 => repeat (first|exact (Kd.C_below HR0_0.out HB.out)|(with_reducible refine Kd.C_alloc ?_ _)|(with_reducible refine Kd.C_drewN ?_ _)|(with_reducible refine Kd.C_drew ?_)));(case side2 => exact HC0_0.out);(case side3 => repeat (first|exact (Kd.C_below HR0_1.out HB.out)|(with_reducible refine Kd.C_alloc ?_ _)|(with_reducible refine Kd.C_drewN ?_ _)|(with_reducible refine Kd.C_drew ?_)));(case side4 => exact HC0_1.out);rintro e w25 ⟨rfl,hb⟩;have n0_:=Am (blk_below (g:=gb224) (o:=.cells #[.slice A0_0 l0_0.length c0_0,.slice A0_1 l0_1.length c0_1,.int .i64 a0_2,.int .i64 a0_3,.int .i64 a0_4] 31 (0,0)) (by (with_reducible repeat (first|refine kN ?_ _|refine kD ?_|refine kA ?_ _));exact BK224.out) hb);have n1_:=Am (below_step (by repeat (first|(with_reducible first|exact HB.out|apply bA|apply bN|apply bD|refine bS ?_ GE224.out)|exact HB.out)) hb);clear BK224;clear HB;have BK224:=n0_;have HB:=n1_;clear n0_ n1_;(try clear hb);(try clear hb2);(try clear hk);(try clear hi)))
            go_ret
            exact ⟨by first|rfl|(simp [errW_none,errW_some] <;> rfl)|(simp [*,errW_none,errW_some] <;> rfl),by repeat (first|(with_reducible first|exact HB.out|apply bA|apply bN|apply bD|refine bS ?_ GE224.out)|exact HB.out)⟩
           ·rw [if_neg c23] at H
            have c23b0 : decide ((rd l4 x27_2) < 0) = false:=decide_eq_false c23
            clear c23
            by_cases c26 : (rd l4 x27_2) > 60
            ·rw [if_pos c26] at H
             have c26b0 : decide (60 < (rd l4 x27_2)) = true:=decide_eq_true c26
             clear c26
             obtain rfl:=Option.some.inj H
             have p226 : 0 ≤ (x27_2 : Int):=of_decide_eq_true (by first|(with_reducible assumption)|assumption)
             have q226 : x27_2 < (l4.length : Int):=of_decide_eq_true (by first|(with_reducible assumption)|assumption)
             obtain ⟨ad226,e226,hx226_0⟩:=Kd.at_int HR4.out x27_2 p226 q226
             cases e226
             replace hx226_0:=(HB.out.cell (World.block_lt_of_cell? w _ hx226_0)).trans hx226_0
             replace p226:=eq_true p226
             replace q226:=eq_true q226
             have hcz27_0 : wr.cell? ⟨gb224,0,none⟩ = some (.slice A0_0 l0_0.length c0_0):=(kC BK224.out 0).trans rfl
             have hcz27_1 : wr.cell? ⟨gb224,1,none⟩ = some (.slice A0_1 l0_1.length c0_1):=(kC BK224.out 1).trans rfl
             have hcz27_2 : wr.cell? ⟨gb224,2,none⟩ = some (.int .i64 a0_2):=(kC BK224.out 2).trans rfl
             have hcz27_3 : wr.cell? ⟨gb224,3,none⟩ = some (.int .i64 a0_3):=(kC BK224.out 3).trans rfl
             have hcz27_4 : wr.cell? ⟨gb224,4,none⟩ = some (.int .i64 a0_4):=(kC BK224.out 4).trans rfl
             have hfz27_0:=kF BK224.out 0
             have hfz27_1:=kF BK224.out 1
             have hfz27_2:=kF BK224.out 2
             have hfz27_3:=kF BK224.out 3
             have hfz27_4:=kF BK224.out 4
             go_wp2_with (first|(go_at_call 71;(with_reducible refine (impl_brakeAt.calls k2 _ _ l0_0 _ _ l0_1 a0_2 a0_3 a0_4 x2_2 t227 _ ?side1 ?side2 ?side3 ?side4 A19.out).mono ?_);(case side1 => repeat (first|exact (Kd.C_below HR0_0.out HB.out)|(with_reducible refine Kd.C_alloc ?_ _)|(with_reducible refine Kd.C_drewN ?_ _)|(with_reducible refine Kd.C_drew ?_)));(case side2 => exact HC0_0.out);(case side3 => repeat (first|exact (Kd.C_below HR0_1.out HB.out)|(with_reducible refine Kd.C_alloc ?_ _)|(with_reducible refine Kd.C_drewN ?_ _)|(with_reducible refine Kd.C_drew ?_)));(case side4 => exact HC0_1.out);rintro e w28 ⟨rfl,hb⟩;have n0_:=Am (blk_below (g:=gb224) (o:=.cells #[.slice A0_0 l0_0.length c0_0,.slice A0_1 l0_1.length c0_1,.int .i64 a0_2,.int .i64 a0_3,.int .i64 a0_4] 31 (0,0)) (by (with_reducible repeat (first|refine kN ?_ _|refine kD ?_|refine kA ?_ _));exact BK224.out) hb);have n1_:=Am (below_step (by repeat (first|(with_reducible first|exact HB.out|apply bA|apply bN|apply bD|refine bS ?_ GE224.out)|exact HB.out)) hb);clear BK224;clear HB;have BK224:=n0_;have HB:=n1_;clear n0_ n1_;(try clear hb);(try clear hb2);(try clear hk);(try clear hi)))
             go_ret
             exact ⟨by first|rfl|(simp [errW_none,errW_some] <;> rfl)|(simp [*,errW_none,errW_some] <;> rfl),by repeat (first|(with_reducible first|exact HB.out|apply bA|apply bN|apply bD|refine bS ?_ GE224.out)|exact HB.out)⟩
            ·rw [if_neg c26] at H
             have c26b0 : decide (60 < (rd l4 x27_2)) = false:=decide_eq_false c26
             clear c26
             by_cases c29 : (wrap64 (x2_2 + (rd l4 x27_2))) > a0_3
             ·rw [if_pos c29] at H
              have c29b0 : decide (a0_3 < (wrap64 (x2_2 + (rd l4 x27_2)))) = true:=decide_eq_true c29
              clear c29
              obtain rfl:=Option.some.inj H
              have p226 : 0 ≤ (x27_2 : Int):=of_decide_eq_true (by first|(with_reducible assumption)|assumption)
              have q226 : x27_2 < (l4.length : Int):=of_decide_eq_true (by first|(with_reducible assumption)|assumption)
              obtain ⟨ad226,e226,hx226_0⟩:=Kd.at_int HR4.out x27_2 p226 q226
              cases e226
              replace hx226_0:=(HB.out.cell (World.block_lt_of_cell? w _ hx226_0)).trans hx226_0
              replace p226:=eq_true p226
              replace q226:=eq_true q226
              have hcz30_0 : wr.cell? ⟨gb224,0,none⟩ = some (.slice A0_0 l0_0.length c0_0):=(kC BK224.out 0).trans rfl
              have hcz30_1 : wr.cell? ⟨gb224,1,none⟩ = some (.slice A0_1 l0_1.length c0_1):=(kC BK224.out 1).trans rfl
              have hcz30_2 : wr.cell? ⟨gb224,2,none⟩ = some (.int .i64 a0_2):=(kC BK224.out 2).trans rfl
              have hcz30_3 : wr.cell? ⟨gb224,3,none⟩ = some (.int .i64 a0_3):=(kC BK224.out 3).trans rfl
              have hcz30_4 : wr.cell? ⟨gb224,4,none⟩ = some (.int .i64 a0_4):=(kC BK224.out 4).trans rfl
              have hfz30_0:=kF BK224.out 0
              have hfz30_1:=kF BK224.out 1
              have hfz30_2:=kF BK224.out 2
              have hfz30_3:=kF BK224.out 3
              have hfz30_4:=kF BK224.out 4
              go_wp2_with (first|(go_at_call 71;(with_reducible refine (impl_brakeAt.calls k2 _ _ l0_0 _ _ l0_1 a0_2 a0_3 a0_4 x2_2 t227 _ ?side1 ?side2 ?side3 ?side4 A19.out).mono ?_);(case side1 => repeat (first|exact (Kd.C_below HR0_0.out HB.out)|(with_reducible refine Kd.C_alloc ?_ _)|(with_reducible refine Kd.C_drewN ?_ _)|(with_reducible refine Kd.C_drew ?_)));(case side2 => exact HC0_0.out);(case side3 => repeat (first|exact (Kd.C_below HR0_1.out HB.out)|(with_reducible refine Kd.C_alloc ?_ _)|(with_reducible refine Kd.C_drewN ?_ _)|(with_reducible refine Kd.C_drew ?_)));(case side4 => exact HC0_1.out);rintro e w31 ⟨rfl,hb⟩;have n0_:=Am (blk_below (g:=gb224) (o:=.cells #[.slice A0_0 l0_0.length c0_0,.slice A0_1 l0_1.length c0_1,.int .i64 a0_2,.int .i64 a0_3,.int .i64 a0_4] 31 (0,0)) (by (with_reducible repeat (first|refine kN ?_ _|refine kD ?_|refine kA ?_ _));exact BK224.out) hb);have n1_:=Am (below_step (by repeat (first|(with_reducible first|exact HB.out|apply bA|apply bN|apply bD|refine bS ?_ GE224.out)|exact HB.out)) hb);clear BK224;clear HB;have BK224:=n0_;have HB:=n1_;clear n0_ n1_;(try clear hb);(try clear hb2);(try clear hk);(try clear hi);have hcz32_0 : w31.cell? ⟨gb224,0,none⟩ = some (.slice A0_0 l0_0.length c0_0):=(kC BK224.out 0).trans rfl;have hcz32_1 : w31.cell? ⟨gb224,1,none⟩ = some (.slice A0_1 l0_1.length c0_1):=(kC BK224.out 1).trans rfl;have hcz32_2 : w31.cell? ⟨gb224,2,none⟩ = some (.int .i64 a0_2):=(kC BK224.out 2).trans rfl;have hcz32_3 : w31.cell? ⟨gb224,3,none⟩ = some (.int .i64 a0_3):=(kC BK224.out 3).trans rfl;have hcz32_4 : w31.cell? ⟨gb224,4,none⟩ = some (.int .i64 a0_4):=(kC BK224.out 4).trans rfl;have hfz32_0:=kF BK224.out 0;have hfz32_1:=kF BK224.out 1;have hfz32_2:=kF BK224.out 2;have hfz32_3:=kF BK224.out 3;have hfz32_4:=kF BK224.out 4))
              go_ret
              exact ⟨by first|rfl|(simp [errW_none,errW_some] <;> rfl)|(simp [*,errW_none,errW_some] <;> rfl),by repeat (first|(with_reducible first|exact HB.out|apply bA|apply bN|apply bD|refine bS ?_ GE224.out)|exact HB.out)⟩
             ·rw [if_neg c29] at H
              have c29b0 : decide (a0_3 < (wrap64 (x2_2 + (rd l4 x27_2)))) = false:=decide_eq_false c29
              clear c29
              by_cases c33 : (rd l4 x27_2) > 0
              ·rw [if_pos c33] at H
               have c33b0 : decide (0 < (rd l4 x27_2)) = true:=decide_eq_true c33
               clear c33
               replace H:=Option.bind_eq_some_iff.mp H
               obtain ⟨t228,A340,H⟩:=H
               replace H : (if (rd l4 x27_2) > t228 then (some false) else (impl_RunOk.l0 k2 a1 (wrap64 (x2_2 + (rd l4 x27_2))) a3 (rd l4 x27_2) l4 (l4.length : Int) (wrap64 (x27_2 + 1)) l0_0 l0_1 a0_2 a0_3 a0_4)) = some r:=H
               have A34:=Am A340
               clear A340
               by_cases c35 : (rd l4 x27_2) > t228
               ·rw [if_pos c35] at H
                have c35b0 : decide (t228 < (rd l4 x27_2)) = true:=decide_eq_true c35
                clear c35
                obtain rfl:=Option.some.inj H
                have p226 : 0 ≤ (x27_2 : Int):=of_decide_eq_true (by first|(with_reducible assumption)|assumption)
                have q226 : x27_2 < (l4.length : Int):=of_decide_eq_true (by first|(with_reducible assumption)|assumption)
                obtain ⟨ad226,e226,hx226_0⟩:=Kd.at_int HR4.out x27_2 p226 q226
                cases e226
                replace hx226_0:=(HB.out.cell (World.block_lt_of_cell? w _ hx226_0)).trans hx226_0
                replace p226:=eq_true p226
                replace q226:=eq_true q226
                have hcz36_0 : wr.cell? ⟨gb224,0,none⟩ = some (.slice A0_0 l0_0.length c0_0):=(kC BK224.out 0).trans rfl
                have hcz36_1 : wr.cell? ⟨gb224,1,none⟩ = some (.slice A0_1 l0_1.length c0_1):=(kC BK224.out 1).trans rfl
                have hcz36_2 : wr.cell? ⟨gb224,2,none⟩ = some (.int .i64 a0_2):=(kC BK224.out 2).trans rfl
                have hcz36_3 : wr.cell? ⟨gb224,3,none⟩ = some (.int .i64 a0_3):=(kC BK224.out 3).trans rfl
                have hcz36_4 : wr.cell? ⟨gb224,4,none⟩ = some (.int .i64 a0_4):=(kC BK224.out 4).trans rfl
                have hfz36_0:=kF BK224.out 0
                have hfz36_1:=kF BK224.out 1
                have hfz36_2:=kF BK224.out 2
                have hfz36_3:=kF BK224.out 3
                have hfz36_4:=kF BK224.out 4
                go_wp2_with (first|(go_at_call 71;(with_reducible refine (impl_brakeAt.calls k2 _ _ l0_0 _ _ l0_1 a0_2 a0_3 a0_4 x2_2 t227 _ ?side1 ?side2 ?side3 ?side4 A19.out).mono ?_);(case side1 => repeat (first|exact (Kd.C_below HR0_0.out HB.out)|(with_reducible refine Kd.C_alloc ?_ _)|(with_reducible refine Kd.C_drewN ?_ _)|(with_reducible refine Kd.C_drew ?_)));(case side2 => exact HC0_0.out);(case side3 => repeat (first|exact (Kd.C_below HR0_1.out HB.out)|(with_reducible refine Kd.C_alloc ?_ _)|(with_reducible refine Kd.C_drewN ?_ _)|(with_reducible refine Kd.C_drew ?_)));(case side4 => exact HC0_1.out);rintro e w37 ⟨rfl,hb⟩;have n0_:=Am (blk_below (g:=gb224) (o:=.cells #[.slice A0_0 l0_0.length c0_0,.slice A0_1 l0_1.length c0_1,.int .i64 a0_2,.int .i64 a0_3,.int .i64 a0_4] 31 (0,0)) (by (with_reducible repeat (first|refine kN ?_ _|refine kD ?_|refine kA ?_ _));exact BK224.out) hb);have n1_:=Am (below_step (by repeat (first|(with_reducible first|exact HB.out|apply bA|apply bN|apply bD|refine bS ?_ GE224.out)|exact HB.out)) hb);clear BK224;clear HB;have BK224:=n0_;have HB:=n1_;clear n0_ n1_;(try clear hb);(try clear hb2);(try clear hk);(try clear hi);have hcz38_0 : w37.cell? ⟨gb224,0,none⟩ = some (.slice A0_0 l0_0.length c0_0):=(kC BK224.out 0).trans rfl;have hcz38_1 : w37.cell? ⟨gb224,1,none⟩ = some (.slice A0_1 l0_1.length c0_1):=(kC BK224.out 1).trans rfl;have hcz38_2 : w37.cell? ⟨gb224,2,none⟩ = some (.int .i64 a0_2):=(kC BK224.out 2).trans rfl;have hcz38_3 : w37.cell? ⟨gb224,3,none⟩ = some (.int .i64 a0_3):=(kC BK224.out 3).trans rfl;have hcz38_4 : w37.cell? ⟨gb224,4,none⟩ = some (.int .i64 a0_4):=(kC BK224.out 4).trans rfl;have hfz38_0:=kF BK224.out 0;have hfz38_1:=kF BK224.out 1;have hfz38_2:=kF BK224.out 2;have hfz38_3:=kF BK224.out 3;have hfz38_4:=kF BK224.out 4)|(go_at_call 69;(with_reducible refine (impl_touched.calls k2 _ _ l0_0 _ _ l0_1 a0_2 a0_3 a0_4 x2_2 (wrap64 (x2_2 + (rd l4 x27_2))) t228 _ ?side1 ?side2 ?side3 ?side4 A34.out).mono ?_);(case side1 => repeat (first|exact (Kd.C_below HR0_0.out HB.out)|(with_reducible refine Kd.C_alloc ?_ _)|(with_reducible refine Kd.C_drewN ?_ _)|(with_reducible refine Kd.C_drew ?_)));(case side2 => exact HC0_0.out);(case side3 => repeat (first|exact (Kd.C_below HR0_1.out HB.out)|(with_reducible refine Kd.C_alloc ?_ _)|(with_reducible refine Kd.C_drewN ?_ _)|(with_reducible refine Kd.C_drew ?_)));(case side4 => exact HC0_1.out);rintro e w39 ⟨rfl,hb⟩;have n0_:=Am (blk_below (g:=gb224) (o:=.cells #[.slice A0_0 l0_0.length c0_0,.slice A0_1 l0_1.length c0_1,.int .i64 a0_2,.int .i64 a0_3,.int .i64 a0_4] 31 (0,0)) (by (with_reducible repeat (first|refine kN ?_ _|refine kD ?_|refine kA ?_ _));exact BK224.out) hb);have n1_:=Am (below_step (by repeat (first|(with_reducible first|exact HB.out|apply bA|apply bN|apply bD|refine bS ?_ GE224.out)|exact HB.out)) hb);clear BK224;clear HB;have BK224:=n0_;have HB:=n1_;clear n0_ n1_;(try clear hb);(try clear hb2);(try clear hk);(try clear hi)))
                go_ret
                exact ⟨by first|rfl|(simp [errW_none,errW_some] <;> rfl)|(simp [*,errW_none,errW_some] <;> rfl),by repeat (first|(with_reducible first|exact HB.out|apply bA|apply bN|apply bD|refine bS ?_ GE224.out)|exact HB.out)⟩
               ·rw [if_neg c35] at H
                have c35b0 : decide (t228 < (rd l4 x27_2)) = false:=decide_eq_false c35
                clear c35
                have H':=Am H
                clear H
                have p226 : 0 ≤ (x27_2 : Int):=of_decide_eq_true (by first|(with_reducible assumption)|assumption)
                have q226 : x27_2 < (l4.length : Int):=of_decide_eq_true (by first|(with_reducible assumption)|assumption)
                obtain ⟨ad226,e226,hx226_0⟩:=Kd.at_int HR4.out x27_2 p226 q226
                cases e226
                replace hx226_0:=(HB.out.cell (World.block_lt_of_cell? w _ hx226_0)).trans hx226_0
                replace p226:=eq_true p226
                replace q226:=eq_true q226
                have hcz40_0 : wr.cell? ⟨gb224,0,none⟩ = some (.slice A0_0 l0_0.length c0_0):=(kC BK224.out 0).trans rfl
                have hcz40_1 : wr.cell? ⟨gb224,1,none⟩ = some (.slice A0_1 l0_1.length c0_1):=(kC BK224.out 1).trans rfl
                have hcz40_2 : wr.cell? ⟨gb224,2,none⟩ = some (.int .i64 a0_2):=(kC BK224.out 2).trans rfl
                have hcz40_3 : wr.cell? ⟨gb224,3,none⟩ = some (.int .i64 a0_3):=(kC BK224.out 3).trans rfl
                have hcz40_4 : wr.cell? ⟨gb224,4,none⟩ = some (.int .i64 a0_4):=(kC BK224.out 4).trans rfl
                have hfz40_0:=kF BK224.out 0
                have hfz40_1:=kF BK224.out 1
                have hfz40_2:=kF BK224.out 2
                have hfz40_3:=kF BK224.out 3
                have hfz40_4:=kF BK224.out 4
                go_wp2_with (first|(go_at_call 71;(with_reducible refine (impl_brakeAt.calls k2 _ _ l0_0 _ _ l0_1 a0_2 a0_3 a0_4 x2_2 t227 _ ?side1 ?side2 ?side3 ?side4 A19.out).mono ?_);(case side1 => repeat (first|exact (Kd.C_below HR0_0.out HB.out)|(with_reducible refine Kd.C_alloc ?_ _)|(with_reducible refine Kd.C_drewN ?_ _)|(with_reducible refine Kd.C_drew ?_)));(case side2 => exact HC0_0.out);(case side3 => repeat (first|exact (Kd.C_below HR0_1.out HB.out)|(with_reducible refine Kd.C_alloc ?_ _)|(with_reducible refine Kd.C_drewN ?_ _)|(with_reducible refine Kd.C_drew ?_)));(case side4 => exact HC0_1.out);rintro e w41 ⟨rfl,hb⟩;have n0_:=Am (blk_below (g:=gb224) (o:=.cells #[.slice A0_0 l0_0.length c0_0,.slice A0_1 l0_1.length c0_1,.int .i64 a0_2,.int .i64 a0_3,.int .i64 a0_4] 31 (0,0)) (by (with_reducible repeat (first|refine kN ?_ _|refine kD ?_|refine kA ?_ _));exact BK224.out) hb);have n1_:=Am (below_step (by repeat (first|(with_reducible first|exact HB.out|apply bA|apply bN|apply bD|refine bS ?_ GE224.out)|exact HB.out)) hb);clear BK224;clear HB;have BK224:=n0_;have HB:=n1_;clear n0_ n1_;(try clear hb);(try clear hb2);(try clear hk);(try clear hi);have hcz42_0 : w41.cell? ⟨gb224,0,none⟩ = some (.slice A0_0 l0_0.length c0_0):=(kC BK224.out 0).trans rfl;have hcz42_1 : w41.cell? ⟨gb224,1,none⟩ = some (.slice A0_1 l0_1.length c0_1):=(kC BK224.out 1).trans rfl;have hcz42_2 : w41.cell? ⟨gb224,2,none⟩ = some (.int .i64 a0_2):=(kC BK224.out 2).trans rfl;have hcz42_3 : w41.cell? ⟨gb224,3,none⟩ = some (.int .i64 a0_3):=(kC BK224.out 3).trans rfl;have hcz42_4 : w41.cell? ⟨gb224,4,none⟩ = some (.int .i64 a0_4):=(kC BK224.out 4).trans rfl;have hfz42_0:=kF BK224.out 0;have hfz42_1:=kF BK224.out 1;have hfz42_2:=kF BK224.out 2;have hfz42_3:=kF BK224.out 3;have hfz42_4:=kF BK224.out 4)|(go_at_call 69;(with_reducible refine (impl_touched.calls k2 _ _ l0_0 _ _ l0_1 a0_2 a0_3 a0_4 x2_2 (wrap64 (x2_2 + (rd l4 x27_2))) t228 _ ?side1 ?side2 ?side3 ?side4 A34.out).mono ?_);(case side1 => repeat (first|exact (Kd.C_below HR0_0.out HB.out)|(with_reducible refine Kd.C_alloc ?_ _)|(with_reducible refine Kd.C_drewN ?_ _)|(with_reducible refine Kd.C_drew ?_)));(case side2 => exact HC0_0.out);(case side3 => repeat (first|exact (Kd.C_below HR0_1.out HB.out)|(with_reducible refine Kd.C_alloc ?_ _)|(with_reducible refine Kd.C_drewN ?_ _)|(with_reducible refine Kd.C_drew ?_)));(case side4 => exact HC0_1.out);rintro e w43 ⟨rfl,hb⟩;have n0_:=Am (blk_below (g:=gb224) (o:=.cells #[.slice A0_0 l0_0.length c0_0,.slice A0_1 l0_1.length c0_1,.int .i64 a0_2,.int .i64 a0_3,.int .i64 a0_4] 31 (0,0)) (by (with_reducible repeat (first|refine kN ?_ _|refine kD ?_|refine kA ?_ _));exact BK224.out) hb);have n1_:=Am (below_step (by repeat (first|(with_reducible first|exact HB.out|apply bA|apply bN|apply bD|refine bS ?_ GE224.out)|exact HB.out)) hb);clear BK224;clear HB;have BK224:=n0_;have HB:=n1_;clear n0_ n1_;(try clear hb);(try clear hb2);(try clear hk);(try clear hi)))
                go_roundg k2
                case measure => have:=HJ5.out;have:=HK2.out;omega
                case rel => exact ⟨(wrap64 (x2_2 + (rd l4 x27_2))),(rd l4 x27_2),(wrap64 (x27_2 + 1)),(by first|rfl|(simp;done)|(simp [*];done)),(by first|rfl|(simp;done)|(simp [*];done)),(by first|rfl|(simp;done)|(simp [*];done)),H',⟨by have:=HJ5.out;have:=HK2.out;omega⟩,⟨by (with_reducible repeat (first|refine kN ?_ _|refine kD ?_|refine kA ?_ _));exact BK224.out⟩,⟨by repeat (first|(with_reducible first|exact HB.out|apply bA|apply bN|apply bD|refine bS ?_ GE224.out)|exact HB.out)⟩⟩
              ·rw [if_neg c33] at H
               have c33b0 : decide (0 < (rd l4 x27_2)) = false:=decide_eq_false c33
               clear c33
               have H':=Am H
               clear H
               have p226 : 0 ≤ (x27_2 : Int):=of_decide_eq_true (by first|(with_reducible assumption)|assumption)
               have q226 : x27_2 < (l4.length : Int):=of_decide_eq_true (by first|(with_reducible assumption)|assumption)
               obtain ⟨ad226,e226,hx226_0⟩:=Kd.at_int HR4.out x27_2 p226 q226
               cases e226
               replace hx226_0:=(HB.out.cell (World.block_lt_of_cell? w _ hx226_0)).trans hx226_0
               replace p226:=eq_true p226
               replace q226:=eq_true q226
               have hcz44_0 : wr.cell? ⟨gb224,0,none⟩ = some (.slice A0_0 l0_0.length c0_0):=(kC BK224.out 0).trans rfl
               have hcz44_1 : wr.cell? ⟨gb224,1,none⟩ = some (.slice A0_1 l0_1.length c0_1):=(kC BK224.out 1).trans rfl
               have hcz44_2 : wr.cell? ⟨gb224,2,none⟩ = some (.int .i64 a0_2):=(kC BK224.out 2).trans rfl
               have hcz44_3 : wr.cell? ⟨gb224,3,none⟩ = some (.int .i64 a0_3):=(kC BK224.out 3).trans rfl
               have hcz44_4 : wr.cell? ⟨gb224,4,none⟩ = some (.int .i64 a0_4):=(kC BK224.out 4).trans rfl
               have hfz44_0:=kF BK224.out 0
               have hfz44_1:=kF BK224.out 1
               have hfz44_2:=kF BK224.out 2
               have hfz44_3:=kF BK224.out 3
               have hfz44_4:=kF BK224.out 4
               go_wp2_with (first|(go_at_call 71;(with_reducible refine (impl_brakeAt.calls k2 _ _ l0_0 _ _ l0_1 a0_2 a0_3 a0_4 x2_2 t227 _ ?side1 ?side2 ?side3 ?side4 A19.out).mono ?_);(case side1 => repeat (first|exact (Kd.C_below HR0_0.out HB.out)|(with_reducible refine Kd.C_alloc ?_ _)|(with_reducible refine Kd.C_drewN ?_ _)|(with_reducible refine Kd.C_drew ?_)));(case side2 => exact HC0_0.out);(case side3 => repeat (first|exact (Kd.C_below HR0_1.out HB.out)|(with_reducible refine Kd.C_alloc ?_ _)|(with_reducible refine Kd.C_drewN ?_ _)|(with_reducible refine Kd.C_drew ?_)));(case side4 => exact HC0_1.out);rintro e w45 ⟨rfl,hb⟩;have n0_:=Am (blk_below (g:=gb224) (o:=.cells #[.slice A0_0 l0_0.length c0_0,.slice A0_1 l0_1.length c0_1,.int .i64 a0_2,.int .i64 a0_3,.int .i64 a0_4] 31 (0,0)) (by (with_reducible repeat (first|refine kN ?_ _|refine kD ?_|refine kA ?_ _));exact BK224.out) hb);have n1_:=Am (below_step (by repeat (first|(with_reducible first|exact HB.out|apply bA|apply bN|apply bD|refine bS ?_ GE224.out)|exact HB.out)) hb);clear BK224;clear HB;have BK224:=n0_;have HB:=n1_;clear n0_ n1_;(try clear hb);(try clear hb2);(try clear hk);(try clear hi);have hcz46_0 : w45.cell? ⟨gb224,0,none⟩ = some (.slice A0_0 l0_0.length c0_0):=(kC BK224.out 0).trans rfl;have hcz46_1 : w45.cell? ⟨gb224,1,none⟩ = some (.slice A0_1 l0_1.length c0_1):=(kC BK224.out 1).trans rfl;have hcz46_2 : w45.cell? ⟨gb224,2,none⟩ = some (.int .i64 a0_2):=(kC BK224.out 2).trans rfl;have hcz46_3 : w45.cell? ⟨gb224,3,none⟩ = some (.int .i64 a0_3):=(kC BK224.out 3).trans rfl;have hcz46_4 : w45.cell? ⟨gb224,4,none⟩ = some (.int .i64 a0_4):=(kC BK224.out 4).trans rfl;have hfz46_0:=kF BK224.out 0;have hfz46_1:=kF BK224.out 1;have hfz46_2:=kF BK224.out 2;have hfz46_3:=kF BK224.out 3;have hfz46_4:=kF BK224.out 4))
               go_roundg k2
               case measure => have:=HJ5.out;have:=HK2.out;omega
               case rel => exact ⟨(wrap64 (x2_2 + (rd l4 x27_2))),(rd l4 x27_2),(wrap64 (x27_2 + 1)),(by first|rfl|(simp;done)|(simp [*];done)),(by first|rfl|(simp;done)|(simp [*];done)),(by first|rfl|(simp;done)|(simp [*];done)),H',⟨by have:=HJ5.out;have:=HK2.out;omega⟩,⟨by (with_reducible repeat (first|refine kN ?_ _|refine kD ?_|refine kA ?_ _));exact BK224.out⟩,⟨by repeat (first|(with_reducible first|exact HB.out|apply bA|apply bN|apply bD|refine bS ?_ GE224.out)|exact HB.out)⟩⟩
        ·rw [if_neg c17] at H
         exact absurd H (by simp)
       ·rw [if_neg c16] at H
        exact absurd H (by simp)
      ·rw [if_neg c15] at H
       have c15b0 : decide (x27_2 < (l4.length : Int)) = false:=decide_eq_false c15
       clear c15
       by_cases c47 : x11_2 = 0
       ·rw [if_pos c47] at H
        have c47b0 : (x11_2 == 0) = true:=beq_iff_eq.mpr c47
        have c47b1 : (x11_2 != 0) = false:=bne_eq_false_iff_eq.mpr c47
        clear c47
        obtain rfl:=Option.some.inj H
        have hcz48_0 : wr.cell? ⟨gb224,0,none⟩ = some (.slice A0_0 l0_0.length c0_0):=(kC BK224.out 0).trans rfl
        have hcz48_1 : wr.cell? ⟨gb224,1,none⟩ = some (.slice A0_1 l0_1.length c0_1):=(kC BK224.out 1).trans rfl
        have hcz48_2 : wr.cell? ⟨gb224,2,none⟩ = some (.int .i64 a0_2):=(kC BK224.out 2).trans rfl
        have hcz48_3 : wr.cell? ⟨gb224,3,none⟩ = some (.int .i64 a0_3):=(kC BK224.out 3).trans rfl
        have hcz48_4 : wr.cell? ⟨gb224,4,none⟩ = some (.int .i64 a0_4):=(kC BK224.out 4).trans rfl
        have hfz48_0:=kF BK224.out 0
        have hfz48_1:=kF BK224.out 1
        have hfz48_2:=kF BK224.out 2
        have hfz48_3:=kF BK224.out 3
        have hfz48_4:=kF BK224.out 4
        go_wp2
        go_ret
        exact ⟨by first|rfl|(simp [errW_none,errW_some] <;> rfl)|(simp [*,errW_none,errW_some] <;> rfl),by repeat (first|(with_reducible first|exact HB.out|apply bA|apply bN|apply bD|refine bS ?_ GE224.out)|exact HB.out)⟩
       ·rw [if_neg c47] at H
        have c47b0 : (x11_2 == 0) = false:=beq_eq_false_iff_ne.mpr c47
        have c47b1 : (x11_2 != 0) = true:=bne_iff_ne.mpr c47
        obtain rfl:=Option.some.inj H
        go_wp2
        go_ret
        exact ⟨by first|rfl|(simp [errW_none,errW_some] <;> rfl)|(simp [*,errW_none,errW_some] <;> rfl),by repeat (first|(with_reducible first|exact HB.out|apply bA|apply bN|apply bD|refine bS ?_ GE224.out)|exact HB.out)⟩

end Go.Proofs.Ytgakkndbcilclaa.PB
