-- Written by a program of this session (wip/print/myprint.py) over the kit's print, with contracts of its own; not a text of print.sh's.
import Derived.Test.YtgakkndbcilclaaDoorPAx0
import Derived.Test.YtgakkndbcilclaaDoorPAx3
import Derived.Test.YtgakkndbcilclaaDoorPAx4
namespace Go.Proofs.YtgakkndbcilclaaDoor.PA
open Go.RowKit Go.Proofs.YtgakkndbcilclaaDoorW.PrintWords Go.Proofs.YtgakkndbcilclaaDoorW.PrintLast Go.Proofs.YtgakkndbcilclaaDoorW.PrintMore
attribute [local go_sem] max2_int min2_int max_two min_two   -- for this text's walks alone
set_option linter.unusedVariables false
set_option linter.unusedSimpArgs false

/-! ### spec_WriteProfile: function 5 -/
mutual
def spec_WriteProfile.l0 : Nat → ByteArray → List (S39) → Int → Int → List (S39) → List (S42) → Int → Int → Int → Option (ByteArray)
 | 0,_,_,_,_,_,_,_,_,_ => none
 | k + 1,x3,x12,x13,x14,x128000,x128001,x128002,x128003,x128004 => if x14 < x13 then (if 0 ≤ x14 then (if x14 < (x12.length : Int) then ((spec_l5decimal.f k ((rd_T39 x12 x14).f0)).bind fun t131 => (if 6 + t131.size ≤ 9223372036854775807 then (if ((⟨#[116,114,97,99,107,32]⟩ : ByteArray) ++ t131).size + 7 ≤ 9223372036854775807 then ((spec_l5decimal.f k ((rd_T39 x12 x14).f1)).bind fun t132 => (if (((⟨#[116,114,97,99,107,32]⟩ : ByteArray) ++ t131) ++ (⟨#[32,98,114,97,107,101,32]⟩ : ByteArray)).size + t132.size ≤ 9223372036854775807 then (if ((((⟨#[116,114,97,99,107,32]⟩ : ByteArray) ++ t131) ++ (⟨#[32,98,114,97,107,101,32]⟩ : ByteArray)) ++ t132).size + 1 ≤ 9223372036854775807 then (if x3.size + (((((⟨#[116,114,97,99,107,32]⟩ : ByteArray) ++ t131) ++ (⟨#[32,98,114,97,107,101,32]⟩ : ByteArray)) ++ t132) ++ (⟨#[10]⟩ : ByteArray)).size ≤ 9223372036854775807 then (spec_WriteProfile.l0 k (x3 ++ (((((⟨#[116,114,97,99,107,32]⟩ : ByteArray) ++ t131) ++ (⟨#[32,98,114,97,107,101,32]⟩ : ByteArray)) ++ t132) ++ (⟨#[10]⟩ : ByteArray))) x12 x13 (wrap64 (x14 + 1)) x128000 x128001 x128002 x128003 x128004) else (none)) else (none)) else (none))) else (none)) else (none))) else (none)) else (none)) else (spec_WriteProfile.l1 k x3 x128001 (x128001.length : Int) 0 x128000 x128001 x128002 x128003 x128004)
def spec_WriteProfile.l1 : Nat → ByteArray → List (S42) → Int → Int → List (S39) → List (S42) → Int → Int → Int → Option (ByteArray)
 | 0,_,_,_,_,_,_,_,_,_ => none
 | k + 1,x3,x32,x33,x34,x128000,x128001,x128002,x128003,x128004 => if x34 < x33 then (if 0 ≤ x34 then (if x34 < (x32.length : Int) then ((spec_l5decimal.f k ((rd_T42 x32 x34).f0)).bind fun t135 => (if 6 + t135.size ≤ 9223372036854775807 then (if ((⟨#[108,105,109,105,116,32]⟩ : ByteArray) ++ t135).size + 1 ≤ 9223372036854775807 then ((spec_l5decimal.f k ((rd_T42 x32 x34).f1)).bind fun t136 => (if (((⟨#[108,105,109,105,116,32]⟩ : ByteArray) ++ t135) ++ (⟨#[32]⟩ : ByteArray)).size + t136.size ≤ 9223372036854775807 then (if ((((⟨#[108,105,109,105,116,32]⟩ : ByteArray) ++ t135) ++ (⟨#[32]⟩ : ByteArray)) ++ t136).size + 1 ≤ 9223372036854775807 then ((spec_l5decimal.f k ((rd_T42 x32 x34).f2)).bind fun t137 => (if (((((⟨#[108,105,109,105,116,32]⟩ : ByteArray) ++ t135) ++ (⟨#[32]⟩ : ByteArray)) ++ t136) ++ (⟨#[32]⟩ : ByteArray)).size + t137.size ≤ 9223372036854775807 then (if ((((((⟨#[108,105,109,105,116,32]⟩ : ByteArray) ++ t135) ++ (⟨#[32]⟩ : ByteArray)) ++ t136) ++ (⟨#[32]⟩ : ByteArray)) ++ t137).size + 1 ≤ 9223372036854775807 then (if x3.size + (((((((⟨#[108,105,109,105,116,32]⟩ : ByteArray) ++ t135) ++ (⟨#[32]⟩ : ByteArray)) ++ t136) ++ (⟨#[32]⟩ : ByteArray)) ++ t137) ++ (⟨#[10]⟩ : ByteArray)).size ≤ 9223372036854775807 then (spec_WriteProfile.l1 k (x3 ++ (((((((⟨#[108,105,109,105,116,32]⟩ : ByteArray) ++ t135) ++ (⟨#[32]⟩ : ByteArray)) ++ t136) ++ (⟨#[32]⟩ : ByteArray)) ++ t137) ++ (⟨#[10]⟩ : ByteArray))) x32 x33 (wrap64 (x34 + 1)) x128000 x128001 x128002 x128003 x128004) else (none)) else (none)) else (none))) else (none)) else (none))) else (none)) else (none))) else (none)) else (none)) else ((spec_l5decimal.f k x128002).bind fun t138 => (if 6 + t138.size ≤ 9223372036854775807 then (if ((⟨#[116,114,97,105,110,32]⟩ : ByteArray) ++ t138).size + 5 ≤ 9223372036854775807 then ((spec_l5decimal.f k x128003).bind fun t139 => (if (((⟨#[116,114,97,105,110,32]⟩ : ByteArray) ++ t138) ++ (⟨#[32,101,110,100,32]⟩ : ByteArray)).size + t139.size ≤ 9223372036854775807 then (if ((((⟨#[116,114,97,105,110,32]⟩ : ByteArray) ++ t138) ++ (⟨#[32,101,110,100,32]⟩ : ByteArray)) ++ t139).size + 7 ≤ 9223372036854775807 then ((spec_l5decimal.f k x128004).bind fun t140 => (if (((((⟨#[116,114,97,105,110,32]⟩ : ByteArray) ++ t138) ++ (⟨#[32,101,110,100,32]⟩ : ByteArray)) ++ t139) ++ (⟨#[32,100,101,108,97,121,32]⟩ : ByteArray)).size + t140.size ≤ 9223372036854775807 then (if ((((((⟨#[116,114,97,105,110,32]⟩ : ByteArray) ++ t138) ++ (⟨#[32,101,110,100,32]⟩ : ByteArray)) ++ t139) ++ (⟨#[32,100,101,108,97,121,32]⟩ : ByteArray)) ++ t140).size + 1 ≤ 9223372036854775807 then (if x3.size + (((((((⟨#[116,114,97,105,110,32]⟩ : ByteArray) ++ t138) ++ (⟨#[32,101,110,100,32]⟩ : ByteArray)) ++ t139) ++ (⟨#[32,100,101,108,97,121,32]⟩ : ByteArray)) ++ t140) ++ (⟨#[10]⟩ : ByteArray)).size ≤ 9223372036854775807 then (if ((x3 ++ (((((((⟨#[116,114,97,105,110,32]⟩ : ByteArray) ++ t138) ++ (⟨#[32,101,110,100,32]⟩ : ByteArray)) ++ t139) ++ (⟨#[32,100,101,108,97,121,32]⟩ : ByteArray)) ++ t140) ++ (⟨#[10]⟩ : ByteArray))).size : Int) > 3000 then (some (⟨#[]⟩ : ByteArray)) else (some (x3 ++ (((((((⟨#[116,114,97,105,110,32]⟩ : ByteArray) ++ t138) ++ (⟨#[32,101,110,100,32]⟩ : ByteArray)) ++ t139) ++ (⟨#[32,100,101,108,97,121,32]⟩ : ByteArray)) ++ t140) ++ (⟨#[10]⟩ : ByteArray))))) else (none)) else (none)) else (none))) else (none)) else (none))) else (none)) else (none)))
end
def spec_WriteProfile.f (k : Nat) (l0_0 : List (S39)) (l0_1 : List (S42)) (a0_2 : Int) (a0_3 : Int) (a0_4 : Int) : Option (ByteArray):=(spec_ProfileOk.f k l0_0 l0_1 a0_2 a0_3 a0_4).bind fun t128 => (if t128 = 0 then (spec_WriteProfile.l0 k (⟨#[]⟩ : ByteArray) l0_0 (l0_0.length : Int) 0 l0_0 l0_1 a0_2 a0_3 a0_4) else (some (⟨#[]⟩ : ByteArray)))
theorem spec_WriteProfile.mono_l : ∀ k,(∀ y0 y1 y2 y3 y4 y5 y6 y7 y8,LeO (spec_WriteProfile.l0 k y0 y1 y2 y3 y4 y5 y6 y7 y8) (spec_WriteProfile.l0 (k + 1) y0 y1 y2 y3 y4 y5 y6 y7 y8))∧(∀ y0 y1 y2 y3 y4 y5 y6 y7 y8,LeO (spec_WriteProfile.l1 k y0 y1 y2 y3 y4 y5 y6 y7 y8) (spec_WriteProfile.l1 (k + 1) y0 y1 y2 y3 y4 y5 y6 y7 y8))
 | 0 => ⟨fun _ _ _ _ _ _ _ _ _ r h => by simp [spec_WriteProfile.l0] at h,fun _ _ _ _ _ _ _ _ _ r h => by simp [spec_WriteProfile.l1] at h⟩
 | k + 1 => by
  obtain ⟨ih0,ih1⟩:=spec_WriteProfile.mono_l k
  refine ⟨?_,?_⟩
  ·intro y0 y1 y2 y3 y4 y5 y6 y7 y8
   unfold spec_WriteProfile.l0
   repeat' first
   | (with_reducible exact ih0 _ _ _ _ _ _ _ _ _)
   | (with_reducible exact ih1 _ _ _ _ _ _ _ _ _)
   | (with_reducible exact spec_ProfileOk.mono _ _ _ _ _ _)
   | (with_reducible exact spec_l5decimal.mono _ _)
   | (with_reducible exact LeO.refl _)
   | (with_reducible exact LeO.none _)
   | (with_reducible refine LeO.ite ?_ ?_)
   | (with_reducible refine LeO.bind ?_ (fun _ => ?_))
   | exact ih0 _ _ _ _ _ _ _ _ _
   | exact ih1 _ _ _ _ _ _ _ _ _
   | exact spec_ProfileOk.mono _ _ _ _ _ _
   | exact spec_l5decimal.mono _ _
   | exact LeO.none _
   | refine LeO.ite ?_ ?_
   | refine LeO.bind ?_ (fun _ => ?_)
  ·intro y0 y1 y2 y3 y4 y5 y6 y7 y8
   unfold spec_WriteProfile.l1
   repeat' first
   | (with_reducible exact ih0 _ _ _ _ _ _ _ _ _)
   | (with_reducible exact ih1 _ _ _ _ _ _ _ _ _)
   | (with_reducible exact spec_ProfileOk.mono _ _ _ _ _ _)
   | (with_reducible exact spec_l5decimal.mono _ _)
   | (with_reducible exact LeO.refl _)
   | (with_reducible exact LeO.none _)
   | (with_reducible refine LeO.ite ?_ ?_)
   | (with_reducible refine LeO.bind ?_ (fun _ => ?_))
   | exact ih0 _ _ _ _ _ _ _ _ _
   | exact ih1 _ _ _ _ _ _ _ _ _
   | exact spec_ProfileOk.mono _ _ _ _ _ _
   | exact spec_l5decimal.mono _ _
   | exact LeO.none _
   | refine LeO.ite ?_ ?_
   | refine LeO.bind ?_ (fun _ => ?_)
theorem spec_WriteProfile.mono : ∀ a0 a1 a2 a3 a4 k,LeO (spec_WriteProfile.f k a0 a1 a2 a3 a4) (spec_WriteProfile.f (k + 1) a0 a1 a2 a3 a4):=by
 intro a0 a1 a2 a3 a4 k
 obtain ⟨ih0,ih1⟩:=spec_WriteProfile.mono_l k
 unfold spec_WriteProfile.f
 repeat' first
   | (with_reducible exact ih0 _ _ _ _ _ _ _ _ _)
   | (with_reducible exact ih1 _ _ _ _ _ _ _ _ _)
   | (with_reducible exact spec_ProfileOk.mono _ _ _ _ _ _)
   | (with_reducible exact spec_l5decimal.mono _ _)
   | (with_reducible exact LeO.refl _)
   | (with_reducible exact LeO.none _)
   | (with_reducible refine LeO.ite ?_ ?_)
   | (with_reducible refine LeO.bind ?_ (fun _ => ?_))
   | exact ih0 _ _ _ _ _ _ _ _ _
   | exact ih1 _ _ _ _ _ _ _ _ _
   | exact spec_ProfileOk.mono _ _ _ _ _ _
   | exact spec_l5decimal.mono _ _
   | exact LeO.none _
   | refine LeO.ite ?_ ?_
   | refine LeO.bind ?_ (fun _ => ?_)
def spec_WriteProfile.T7 : Bool × List (List Nat × List Nat):=(true,[([],[]),([],[]),([1],[1]),([2],[2]),([3],[3]),([4],[4]),([],[]),([6],[6]),([7,3],[7]),([5,8],[5,8]),([9],[9]),([0,10],[0,10]),([11,8,0,1,2,3,4,5,6,7,8,9,10,11],[0,11])])
def spec_WriteProfile.B7 : List Nat:=[0,0,2,6,14,30,0,64,206,510,1022,2047,4095]
theorem spec_WriteProfile.tab7 : rtab .any (opsOf Tryd.f5 7) = spec_WriteProfile.T7:=by kernel_rfl
theorem spec_WriteProfile.bits7 : waitsOk spec_WriteProfile.T7.2 spec_WriteProfile.B7 = true:=by kernel_rfl
def spec_WriteProfile.T12 : Bool × List (List Nat × List Nat):=(true,[([],[]),([],[]),([1],[1]),([2],[2]),([3],[3]),([4],[4]),([],[]),([6],[6]),([7,3],[7]),([5,8],[5,8]),([9],[9]),([],[]),([11],[11]),([12,8],[12]),([10,13],[10,13]),([14],[14]),([0,15],[0,15]),([16,13,0,1,2,3,4,5,6,7,8,9,10,11,12,13,14,15,16],[0,16])])
def spec_WriteProfile.B12 : List Nat:=[0,0,2,6,14,30,0,64,206,510,1022,0,2048,6606,16382,32766,65535,131071]
theorem spec_WriteProfile.tab12 : rtab .any (opsOf Tryd.f5 12) = spec_WriteProfile.T12:=by kernel_rfl
theorem spec_WriteProfile.bits12 : waitsOk spec_WriteProfile.T12.2 spec_WriteProfile.B12 = true:=by kernel_rfl
def spec_WriteProfile.T14 : Bool × List (List Nat × List Nat):=(true,[([],[]),([],[]),([1],[1]),([2],[2]),([3],[3]),([4],[4]),([],[]),([6],[6]),([7,3],[7]),([5,8],[5,8]),([9],[9]),([],[]),([11],[11]),([12,8],[12]),([10,13],[10,13]),([14],[14]),([0,15],[0,15]),([16,13,0,1,2,3,4,5,6,7,8,9,10,11,12,13,14,15,16],[0,16])])
def spec_WriteProfile.B14 : List Nat:=[0,0,2,6,14,30,0,64,206,510,1022,0,2048,6606,16382,32766,65535,131071]
theorem spec_WriteProfile.tab14 : rtab .any (opsOf Tryd.f5 14) = spec_WriteProfile.T14:=by kernel_rfl
theorem spec_WriteProfile.bits14 : waitsOk spec_WriteProfile.T14.2 spec_WriteProfile.B14 = true:=by kernel_rfl
set_option maxHeartbeats 8000000 in
set_option maxRecDepth 100000 in
theorem spec_WriteProfile.calls (k : Nat) (A0_0 : Option Addr) (c0_0 : Nat) (l0_0 : List (S39)) (A0_1 : Option Addr) (c0_1 : Nat) (l0_1 : List (S42)) (a0_2 : Int) (a0_3 : Int) (a0_4 : Int) (r : ByteArray) (w : World) (hr0_0 : Kd.C k39 w A0_0 l0_0.length l0_0) (hc0_0 : l0_0.length ≤ c0_0) (hr0_1 : Kd.C k42 w A0_1 l0_1.length l0_1) (hc0_1 : l0_1.length ≤ c0_1) (h : spec_WriteProfile.f k l0_0 l0_1 a0_2 a0_3 a0_4 = some r) :
  Calls Tryd.prog 5 #[.agg #[.slice A0_0 l0_0.length c0_0,.slice A0_1 l0_1.length c0_1,.int .i64 a0_2,.int .i64 a0_3,.int .i64 a0_4]] w fun e w' => e = .returned (.string r)∧Below w.heap.size w w':=by
 have hu31:=Tryd.underlying31
 have hu39:=Tryd.underlying39
 have hu42:=Tryd.underlying42
 have HR0_0:=Am hr0_0
 have HC0_0:=Am hc0_0
 clear hr0_0 hc0_0
 have HR0_1:=Am hr0_1
 have HC0_1:=Am hc0_1
 clear hr0_1 hc0_1
 have HB:=Am (Below.refl w.heap.size w)
 have H : ((spec_ProfileOk.f k l0_0 l0_1 a0_2 a0_3 a0_4).bind fun t128 => (if t128 = 0 then (spec_WriteProfile.l0 k (⟨#[]⟩ : ByteArray) l0_0 (l0_0.length : Int) 0 l0_0 l0_1 a0_2 a0_3 a0_4) else (some (⟨#[]⟩ : ByteArray)))) = some r:=h
 clear h
 replace H:=Option.bind_eq_some_iff.mp H
 obtain ⟨t128,A20,H⟩:=H
 replace H : (if t128 = 0 then (spec_WriteProfile.l0 k (⟨#[]⟩ : ByteArray) l0_0 (l0_0.length : Int) 0 l0_0 l0_1 a0_2 a0_3 a0_4) else (some (⟨#[]⟩ : ByteArray))) = some r:=H
 have A2:=Am A20
 clear A20
 by_cases c3 : t128 = 0
 ·rw [if_pos c3] at H
  have c3b0 : (t128 == 0) = true:=beq_iff_eq.mpr c3
  have c3b1 : (t128 != 0) = false:=bne_eq_false_iff_eq.mpr c3
  clear c3
  have H':=Am H
  clear H
  go_enter Tryd.func5,Tryd.ntmps5
  go_wp2_with (first|((with_reducible refine gate_dst (N:=1) rfl ?_);refine box_event ?hg (N:=1) ?hd (cs:=#[.slice A0_0 l0_0.length c0_0,.slice A0_1 l0_1.length c0_1,.int .i64 a0_2,.int .i64 a0_3,.int .i64 a0_4]) (t:=31) ?hr ?_;(case hd => rfl);(case hg => rfl);(case hr => first|(go_simp;done)|(go_simp;rfl));intro gb127 hg w4 hbox hb;have n0_:=Am (below_step (by repeat (first|(with_reducible first|exact HB.out|apply bA|apply bN|apply bD)|exact HB.out)) hb);have n1_:=Am (hbox);have n2_:=Am ((by rw [hg];exact (below_size (by repeat (first|(with_reducible first|exact HB.out|apply bA|apply bN|apply bD)|exact HB.out))) : w.heap.size ≤ gb127));have n3_:=Am ((by rw [hg];exact (below_size (by repeat (first|(with_reducible first|exact HB.out|apply bA|apply bN|apply bD)|exact HB.out))) : w.heap.size ≤ gb127));clear HB;have HB:=n0_;have BK127:=n1_;have GW127:=n2_;have GE127:=n3_;clear n0_ n1_ n2_ n3_;clear hb hbox hg;have hcz5_0 : w4.cell? ⟨gb127,0,none⟩ = some (.slice A0_0 l0_0.length c0_0):=(kC BK127.out 0).trans rfl;have hcz5_1 : w4.cell? ⟨gb127,1,none⟩ = some (.slice A0_1 l0_1.length c0_1):=(kC BK127.out 1).trans rfl;have hcz5_2 : w4.cell? ⟨gb127,2,none⟩ = some (.int .i64 a0_2):=(kC BK127.out 2).trans rfl;have hcz5_3 : w4.cell? ⟨gb127,3,none⟩ = some (.int .i64 a0_3):=(kC BK127.out 3).trans rfl;have hcz5_4 : w4.cell? ⟨gb127,4,none⟩ = some (.int .i64 a0_4):=(kC BK127.out 4).trans rfl;have hfz5_0:=kF BK127.out 0;have hfz5_1:=kF BK127.out 1;have hfz5_2:=kF BK127.out 2;have hfz5_3:=kF BK127.out 3;have hfz5_4:=kF BK127.out 4)|((with_reducible refine gate_callee (f:=11) rfl ?_);refine goesL_ (some 9) rfl rfl Tryd.func11 (by kernel_rfl) rfl #[.agg #[.slice A0_0 l0_0.length c0_0,.slice A0_1 l0_1.length c0_1,.int .i64 a0_2,.int .i64 a0_3,.int .i64 a0_4]] rfl (by (try simp only [List.map_toArray,List.map_cons,List.map_nil]);first|done|rfl|(simp only [List.length_drop,List.length_take];rfl)) ?_;(with_reducible refine (spec_ProfileOk.calls k _ _ l0_0 _ _ l0_1 a0_2 a0_3 a0_4 t128 _ ?side1 ?side2 ?side3 ?side4 A2.out).mono ?_);(case side1 => repeat (first|exact (Kd.C_below HR0_0.out HB.out)|(with_reducible refine Kd.C_alloc ?_ _)|(with_reducible refine Kd.C_drewN ?_ _)|(with_reducible refine Kd.C_drew ?_)));(case side2 => exact HC0_0.out);(case side3 => repeat (first|exact (Kd.C_below HR0_1.out HB.out)|(with_reducible refine Kd.C_alloc ?_ _)|(with_reducible refine Kd.C_drewN ?_ _)|(with_reducible refine Kd.C_drew ?_)));(case side4 => exact HC0_1.out);rintro e w6 ⟨rfl,hb⟩;refine ⟨_,rfl,?_⟩;have n0_:=Am (blk_below (g:=gb127) (o:=.cells #[.slice A0_0 l0_0.length c0_0,.slice A0_1 l0_1.length c0_1,.int .i64 a0_2,.int .i64 a0_3,.int .i64 a0_4] 31 (0,0)) (by (with_reducible repeat (first|refine kN ?_ _|refine kD ?_|refine kA ?_ _));exact BK127.out) hb);have n1_:=Am (below_step (by repeat (first|(with_reducible first|exact HB.out|apply bA|apply bN|apply bD|refine bS ?_ GE127.out)|exact HB.out)) hb);clear BK127;clear HB;have BK127:=n0_;have HB:=n1_;clear n0_ n1_;(try clear hb);(try clear hb2);(try clear hk);(try clear hi);have hcz7_0 : w6.cell? ⟨gb127,0,none⟩ = some (.slice A0_0 l0_0.length c0_0):=(kC BK127.out 0).trans rfl;have hcz7_1 : w6.cell? ⟨gb127,1,none⟩ = some (.slice A0_1 l0_1.length c0_1):=(kC BK127.out 1).trans rfl;have hcz7_2 : w6.cell? ⟨gb127,2,none⟩ = some (.int .i64 a0_2):=(kC BK127.out 2).trans rfl;have hcz7_3 : w6.cell? ⟨gb127,3,none⟩ = some (.int .i64 a0_3):=(kC BK127.out 3).trans rfl;have hcz7_4 : w6.cell? ⟨gb127,4,none⟩ = some (.int .i64 a0_4):=(kC BK127.out 4).trans rfl;have hfz7_0:=kF BK127.out 0;have hfz7_1:=kF BK127.out 1;have hfz7_2:=kF BK127.out 2;have hfz7_3:=kF BK127.out 3;have hfz7_4:=kF BK127.out 4))
  go_loopg [3,14] k (fun kq v3 v14 w' => ∃ (x3_1 : ByteArray) (x14_1 : Int),v3 = .string x3_1∧v14 = .int .i64 x14_1∧As (spec_WriteProfile.l0 kq x3_1 l0_0 (l0_0.length : Int) x14_1 l0_0 l0_1 a0_2 a0_3 a0_4 = some r)∧As (kq ≤ k)∧As (w'.heap[gb127]? = some (.cells #[(.slice A0_0 l0_0.length c0_0),(.slice A0_1 l0_1.length c0_1),.int .i64 a0_2,.int .i64 a0_3,.int .i64 a0_4] 31 (0,0)))∧As (Below w.heap.size w w'))
  case atStart => exact ⟨((⟨#[]⟩ : ByteArray)),(0),(by first|rfl|(simp;done)|(simp [*];done)),(by first|rfl|(simp;done)|(simp [*];done)),H',⟨Nat.le_refl _⟩,⟨by (with_reducible repeat (first|refine kN ?_ _|refine kD ?_|refine kA ?_ _));exact BK127.out⟩,⟨by repeat (first|(with_reducible first|exact HB.out|apply bA|apply bN|apply bD|refine bS ?_ GE127.out)|exact HB.out)⟩⟩
  case round =>
   clear H'
   try clear c1
   try clear p2
   try clear c3
   try clear c3b0
   try clear c3b1
   try clear c5
   try clear hcz5_0
   try clear hcz5_1
   try clear hcz5_2
   try clear hcz5_3
   try clear hcz5_4
   try clear hcz7_0
   try clear hcz7_1
   try clear hcz7_2
   try clear hcz7_3
   try clear hcz7_4
   try clear hfz5_0
   try clear hfz5_1
   try clear hfz5_2
   try clear hfz5_3
   try clear hfz5_4
   try clear hfz7_0
   try clear hfz7_1
   try clear hfz7_2
   try clear hfz7_3
   try clear hfz7_4
   obtain ⟨x3_1,x14_1,rfl,rfl,HA,HK1,BK127,HB⟩:=hrel
   cases gk with
   | zero => exact absurd HA.out (by simp [spec_WriteProfile.l0])
   | succ k1 =>
    have H:=HA.out
    clear HA
    simp only [spec_WriteProfile.l0] at H
    by_cases c8 : x14_1 < (l0_0.length : Int)
    ·rw [if_pos c8] at H
     have c8b0 : decide (x14_1 < (l0_0.length : Int)) = true:=decide_eq_true c8
     clear c8
     by_cases c9 : 0 ≤ x14_1
     ·rw [if_pos c9] at H
      have c9b0 : decide (0 ≤ x14_1) = true:=decide_eq_true c9
      clear c9
      by_cases c10 : x14_1 < (l0_0.length : Int)
      ·rw [if_pos c10] at H
       have c10b0 : decide (x14_1 < (l0_0.length : Int)) = true:=decide_eq_true c10
       clear c10
       replace H:=Option.bind_eq_some_iff.mp H
       obtain ⟨t131,A110,H⟩:=H
       replace H : (if 6 + t131.size ≤ 9223372036854775807 then (if ((⟨#[116,114,97,99,107,32]⟩ : ByteArray) ++ t131).size + 7 ≤ 9223372036854775807 then ((spec_l5decimal.f k1 ((rd_T39 l0_0 x14_1).f1)).bind fun t132 => (if (((⟨#[116,114,97,99,107,32]⟩ : ByteArray) ++ t131) ++ (⟨#[32,98,114,97,107,101,32]⟩ : ByteArray)).size + t132.size ≤ 9223372036854775807 then (if ((((⟨#[116,114,97,99,107,32]⟩ : ByteArray) ++ t131) ++ (⟨#[32,98,114,97,107,101,32]⟩ : ByteArray)) ++ t132).size + 1 ≤ 9223372036854775807 then (if x3_1.size + (((((⟨#[116,114,97,99,107,32]⟩ : ByteArray) ++ t131) ++ (⟨#[32,98,114,97,107,101,32]⟩ : ByteArray)) ++ t132) ++ (⟨#[10]⟩ : ByteArray)).size ≤ 9223372036854775807 then (spec_WriteProfile.l0 k1 (x3_1 ++ (((((⟨#[116,114,97,99,107,32]⟩ : ByteArray) ++ t131) ++ (⟨#[32,98,114,97,107,101,32]⟩ : ByteArray)) ++ t132) ++ (⟨#[10]⟩ : ByteArray))) l0_0 (l0_0.length : Int) (wrap64 (x14_1 + 1)) l0_0 l0_1 a0_2 a0_3 a0_4) else (none)) else (none)) else (none))) else (none)) else (none)) = some r:=H
       have A11:=Am A110
       clear A110
       by_cases c12 : 6 + t131.size ≤ 9223372036854775807
       ·rw [if_pos c12] at H
        have c12b0:=eq_true c12
        have c12b1 : decide (6 + t131.size ≤ 9223372036854775807) = true:=decide_eq_true c12
        try have c12b2 : (9223372036854775807 < 6 + t131.size) = False:=eq_false (Nat.not_lt.2 c12)
        by_cases c13 : ((⟨#[116,114,97,99,107,32]⟩ : ByteArray) ++ t131).size + 7 ≤ 9223372036854775807
        ·rw [if_pos c13] at H
         have c13b0:=eq_true c13
         have c13b1 : decide (((⟨#[116,114,97,99,107,32]⟩ : ByteArray) ++ t131).size + 7 ≤ 9223372036854775807) = true:=decide_eq_true c13
         try have c13b2 : (9223372036854775807 < ((⟨#[116,114,97,99,107,32]⟩ : ByteArray) ++ t131).size + 7) = False:=eq_false (Nat.not_lt.2 c13)
         try have c13b3 : (9223372036854775807 < 6 + t131.size + 7) = False:=eq_false (Nat.not_lt.2 (by have h_:=c13;simp only [ByteArray.size_append] at h_;exact h_))
         replace H:=Option.bind_eq_some_iff.mp H
         obtain ⟨t132,A140,H⟩:=H
         replace H : (if (((⟨#[116,114,97,99,107,32]⟩ : ByteArray) ++ t131) ++ (⟨#[32,98,114,97,107,101,32]⟩ : ByteArray)).size + t132.size ≤ 9223372036854775807 then (if ((((⟨#[116,114,97,99,107,32]⟩ : ByteArray) ++ t131) ++ (⟨#[32,98,114,97,107,101,32]⟩ : ByteArray)) ++ t132).size + 1 ≤ 9223372036854775807 then (if x3_1.size + (((((⟨#[116,114,97,99,107,32]⟩ : ByteArray) ++ t131) ++ (⟨#[32,98,114,97,107,101,32]⟩ : ByteArray)) ++ t132) ++ (⟨#[10]⟩ : ByteArray)).size ≤ 9223372036854775807 then (spec_WriteProfile.l0 k1 (x3_1 ++ (((((⟨#[116,114,97,99,107,32]⟩ : ByteArray) ++ t131) ++ (⟨#[32,98,114,97,107,101,32]⟩ : ByteArray)) ++ t132) ++ (⟨#[10]⟩ : ByteArray))) l0_0 (l0_0.length : Int) (wrap64 (x14_1 + 1)) l0_0 l0_1 a0_2 a0_3 a0_4) else (none)) else (none)) else (none)) = some r:=H
         have A14:=Am A140
         clear A140
         by_cases c15 : (((⟨#[116,114,97,99,107,32]⟩ : ByteArray) ++ t131) ++ (⟨#[32,98,114,97,107,101,32]⟩ : ByteArray)).size + t132.size ≤ 9223372036854775807
         ·rw [if_pos c15] at H
          have c15b0:=eq_true c15
          have c15b1 : decide ((((⟨#[116,114,97,99,107,32]⟩ : ByteArray) ++ t131) ++ (⟨#[32,98,114,97,107,101,32]⟩ : ByteArray)).size + t132.size ≤ 9223372036854775807) = true:=decide_eq_true c15
          try have c15b2 : (9223372036854775807 < (((⟨#[116,114,97,99,107,32]⟩ : ByteArray) ++ t131) ++ (⟨#[32,98,114,97,107,101,32]⟩ : ByteArray)).size + t132.size) = False:=eq_false (Nat.not_lt.2 c15)
          try have c15b3 : (9223372036854775807 < 6 + t131.size + 7 + t132.size) = False:=eq_false (Nat.not_lt.2 (by have h_:=c15;simp only [ByteArray.size_append] at h_;exact h_))
          by_cases c16 : ((((⟨#[116,114,97,99,107,32]⟩ : ByteArray) ++ t131) ++ (⟨#[32,98,114,97,107,101,32]⟩ : ByteArray)) ++ t132).size + 1 ≤ 9223372036854775807
          ·rw [if_pos c16] at H
           have c16b0:=eq_true c16
           have c16b1 : decide (((((⟨#[116,114,97,99,107,32]⟩ : ByteArray) ++ t131) ++ (⟨#[32,98,114,97,107,101,32]⟩ : ByteArray)) ++ t132).size + 1 ≤ 9223372036854775807) = true:=decide_eq_true c16
           try have c16b2 : (9223372036854775807 < ((((⟨#[116,114,97,99,107,32]⟩ : ByteArray) ++ t131) ++ (⟨#[32,98,114,97,107,101,32]⟩ : ByteArray)) ++ t132).size + 1) = False:=eq_false (Nat.not_lt.2 c16)
           try have c16b3 : (9223372036854775807 < 6 + t131.size + 7 + t132.size + 1) = False:=eq_false (Nat.not_lt.2 (by have h_:=c16;simp only [ByteArray.size_append] at h_;exact h_))
           by_cases c17 : x3_1.size + (((((⟨#[116,114,97,99,107,32]⟩ : ByteArray) ++ t131) ++ (⟨#[32,98,114,97,107,101,32]⟩ : ByteArray)) ++ t132) ++ (⟨#[10]⟩ : ByteArray)).size ≤ 9223372036854775807
           ·rw [if_pos c17] at H
            have c17b0:=eq_true c17
            have c17b1 : decide (x3_1.size + (((((⟨#[116,114,97,99,107,32]⟩ : ByteArray) ++ t131) ++ (⟨#[32,98,114,97,107,101,32]⟩ : ByteArray)) ++ t132) ++ (⟨#[10]⟩ : ByteArray)).size ≤ 9223372036854775807) = true:=decide_eq_true c17
            try have c17b2 : (9223372036854775807 < x3_1.size + (((((⟨#[116,114,97,99,107,32]⟩ : ByteArray) ++ t131) ++ (⟨#[32,98,114,97,107,101,32]⟩ : ByteArray)) ++ t132) ++ (⟨#[10]⟩ : ByteArray)).size) = False:=eq_false (Nat.not_lt.2 c17)
            try have c17b3 : (9223372036854775807 < x3_1.size + (6 + t131.size + 7 + t132.size + 1)) = False:=eq_false (Nat.not_lt.2 (by have h_:=c17;simp only [ByteArray.size_append] at h_;exact h_))
            have H':=Am H
            clear H
            have p129 : 0 ≤ (x14_1 : Int):=of_decide_eq_true (by first|(with_reducible assumption)|assumption)
            have q129 : x14_1 < (l0_0.length : Int):=of_decide_eq_true (by first|(with_reducible assumption)|assumption)
            obtain ⟨ad129,e129,hx129_0,hx129_1⟩:=at_T39 HR0_0.out x14_1 p129 q129
            cases e129
            replace hx129_0:=(HB.out.cell (World.block_lt_of_cell? w _ hx129_0)).trans hx129_0
            replace hx129_1:=(HB.out.cell (World.block_lt_of_cell? w _ hx129_1)).trans hx129_1
            replace p129:=eq_true p129
            replace q129:=eq_true q129
            try go_wp2_with (first|((with_reducible refine gate_dst (N:=5) rfl ?_);refine box_event ?hg (N:=5) ?hd (cs:=#[.int .i64 0,.int .i64 0]) (t:=39) ?hr ?_;(case hd => rfl);(case hg => rfl);(case hr => first|(go_simp;done)|(go_simp;rfl));intro gb130 hg w18 hbox hb;have n0_:=Am (blk_below (g:=gb127) (o:=.cells #[.slice (some ad129) l0_0.length c0_0,.slice A0_1 l0_1.length c0_1,.int .i64 a0_2,.int .i64 a0_3,.int .i64 a0_4] 31 (0,0)) (by (with_reducible repeat (first|refine kN ?_ _|refine kD ?_|refine kA ?_ _));exact BK127.out) hb);have n1_:=Am (below_step (by repeat (first|(with_reducible first|exact HB.out|apply bA|apply bN|apply bD|refine bS ?_ GE127.out)|exact HB.out)) hb);have n2_:=Am (hbox);have n3_:=Am ((by rw [hg];exact (below_size (by repeat (first|(with_reducible first|exact HB.out|apply bA|apply bN|apply bD|refine bS ?_ GE127.out)|exact HB.out))) : w.heap.size ≤ gb130));have n4_:=Am ((by rw [hg];exact (below_size (by repeat (first|(with_reducible first|exact HB.out|apply bA|apply bN|apply bD|refine bS ?_ GE127.out)|exact HB.out))) : w.heap.size ≤ gb130));have n5_:=Am ((by rw [hg];exact Nat.ne_of_lt (blk_lt (g:=gb127) (o:=.cells #[.slice (some ad129) l0_0.length c0_0,.slice A0_1 l0_1.length c0_1,.int .i64 a0_2,.int .i64 a0_3,.int .i64 a0_4] 31 (0,0)) (by (with_reducible repeat (first|refine kN ?_ _|refine kD ?_|refine kA ?_ _));exact BK127.out)) : gb127 ≠ gb130));have n6_:=Am ((by rw [hg];exact Nat.ne_of_gt (blk_lt (g:=gb127) (o:=.cells #[.slice (some ad129) l0_0.length c0_0,.slice A0_1 l0_1.length c0_1,.int .i64 a0_2,.int .i64 a0_3,.int .i64 a0_4] 31 (0,0)) (by (with_reducible repeat (first|refine kN ?_ _|refine kD ?_|refine kA ?_ _));exact BK127.out)) : gb130 ≠ gb127));clear BK127;clear HB;have BK127:=n0_;have HB:=n1_;have BK130:=n2_;have GW130:=n3_;have GE130:=n4_;have NB127_130:=n5_;have NB130_127:=n6_;clear n0_ n1_ n2_ n3_ n4_ n5_ n6_;clear hb hbox hg;have hnb19:=NB130_127.out;have hnc19:=NB127_130.out;have hcz20_0 : w18.cell? ⟨gb130,0,none⟩ = some (.int .i64 0):=(kC BK130.out 0).trans rfl;have hcz20_1 : w18.cell? ⟨gb130,1,none⟩ = some (.int .i64 0):=(kC BK130.out 1).trans rfl;have hfz20_0:=kF BK130.out 0;have hfz20_1:=kF BK130.out 1))
            have n0_ : As (((w18.setCell ⟨gb130,0,none⟩ (.int .i64 ((rd_T39 l0_0 x14_1).f0))).setCell ⟨gb130,1,none⟩ (.int .i64 ((rd_T39 l0_0 x14_1).f1))).heap[gb127]? = some (.cells #[.slice (some ad129) l0_0.length c0_0,.slice A0_1 l0_1.length c0_1,.int .i64 a0_2,.int .i64 a0_3,.int .i64 a0_4] 31 (0,0))):=⟨by (with_reducible repeat (first|refine kN ?_ _|refine kD ?_|refine kA ?_ _));refine blk_far ?_ NB127_130.out _;(with_reducible repeat (first|refine kN ?_ _|refine kD ?_|refine kA ?_ _));refine blk_far ?_ NB127_130.out _;(with_reducible repeat (first|refine kN ?_ _|refine kD ?_|refine kA ?_ _));exact BK127.out⟩
            have n1_ : As (((w18.setCell ⟨gb130,0,none⟩ (.int .i64 ((rd_T39 l0_0 x14_1).f0))).setCell ⟨gb130,1,none⟩ (.int .i64 ((rd_T39 l0_0 x14_1).f1))).heap[gb130]? = some (.cells #[.int .i64 ((rd_T39 l0_0 x14_1).f0),.int .i64 ((rd_T39 l0_0 x14_1).f1)] 39 (0,0))):=⟨by (with_reducible repeat (first|refine kN ?_ _|refine kD ?_|refine kA ?_ _));refine blk_put (cs:=#[.int .i64 ((rd_T39 l0_0 x14_1).f0),.int .i64 0]) ?_ 1 _ rfl;(with_reducible repeat (first|refine kN ?_ _|refine kD ?_|refine kA ?_ _));refine blk_put (cs:=#[.int .i64 0,.int .i64 0]) ?_ 0 _ rfl;(with_reducible repeat (first|refine kN ?_ _|refine kD ?_|refine kA ?_ _));exact BK130.out⟩
            have n2_ : As (Below w.heap.size w ((w18.setCell ⟨gb130,0,none⟩ (.int .i64 ((rd_T39 l0_0 x14_1).f0))).setCell ⟨gb130,1,none⟩ (.int .i64 ((rd_T39 l0_0 x14_1).f1)))):=⟨by repeat (first|(with_reducible first|exact HB.out|apply bA|apply bN|apply bD|refine bS ?_ GE127.out|refine bS ?_ GE130.out)|exact HB.out)⟩
            (try clear BK127)
            (try clear BK130)
            (try clear HB)
            generalize ((w18.setCell ⟨gb130,0,none⟩ (.int .i64 ((rd_T39 l0_0 x14_1).f0))).setCell ⟨gb130,1,none⟩ (.int .i64 ((rd_T39 l0_0 x14_1).f1))) = w21 at n0_ n1_ n2_ ⊢
            have BK127:=n0_
            have BK130:=n1_
            have HB:=n2_
            clear n0_ n1_ n2_
            have n0_:=Am (kD BK127.out)
            have n1_:=Am (kD BK130.out)
            have n2_:=Am (bD HB.out)
            clear BK127
            clear BK130
            clear HB
            have BK127:=n0_
            have BK130:=n1_
            have HB:=n2_
            clear n0_ n1_ n2_
            refine start_ (n:=13) (S:=fun w' => w'.cell? ⟨gb130,0,none⟩ = some (.int .i64 ((rd_T39 l0_0 x14_1).f0))∧w'.cell? ⟨gb130,1,none⟩ = some (.int .i64 ((rd_T39 l0_0 x14_1).f1))) (ds:=[]) #[false,false,false,false,false,false,false,false,false,false,false,false,false] (by kernel_rfl) rfl rfl ⟨(kC BK130.out 0).trans rfl,(kC BK130.out 1).trans rfl⟩ (fun hHeld => ?_);refine with_tabW spec_WriteProfile.tab7 spec_WriteProfile.bits7 (fun HT_ HW_ => ?_)
            generalize w21.drew = w22 at BK127 BK130 HB hHeld ⊢
            refine pure_ (i:=0) (N:=some 18) (v:=?_) (a':=?_) #[true,false,false,false,false,false,false,false,false,false,false,false,false] rfl rfl (any_of HT_.out (by kernel_rfl)) (fun _ _ _ h => h) (Or.inl ⟨by rfl,?_⟩) ?_ ?_
            rotate_left
            ·intro w'
             go_simp
             with_reducible rfl
            rotate_left
            ·simp only [Act.put,pS]
             rfl
            refine pure_ (i:=1) (N:=some 19) (v:=?_) (a':=?_) #[true,true,false,false,false,false,false,false,false,false,false,false,false] rfl rfl (any_of HT_.out (by kernel_rfl)) (fun _ _ _ h => h) (Or.inl ⟨by rfl,?_⟩) ?_ ?_
            rotate_left
            ·intro w'
             go_simp
             with_reducible rfl
            rotate_left
            ·simp only [Act.put,pS]
             rfl
            refine pure_ (i:=6) (N:=some 24) (v:=?_) (a':=?_) #[true,true,false,false,false,false,true,false,false,false,false,false,false] rfl rfl (any_of HT_.out (by kernel_rfl)) (fun _ _ _ h => h) (Or.inl ⟨by rfl,?_⟩) ?_ ?_
            rotate_left
            ·intro w'
             go_simp
             with_reducible rfl
            rotate_left
            ·simp only [Act.put,pS]
             rfl
            refine take_ (i:=2) (N:=some 20) (v:=?_) (a':=?_) #[true,true,true,false,false,false,true,false,false,false,false,false,false] rfl rfl (take_ofW HT_.out HW_.out (by kernel_rfl)) (fun _ _ _ h => h) (Or.inl ⟨by rfl,?_⟩) hHeld ?_ ?_
            rotate_left
            ·rintro w' ⟨s0,s1⟩
             go_simp
             with_reducible rfl
            rotate_left
            ·simp only [Act.put,pS]
             rfl
            refine take_ (i:=7) (N:=some 25) (v:=?_) (a':=?_) #[true,true,true,false,false,false,true,true,false,false,false,false,false] rfl rfl (take_ofW HT_.out HW_.out (by kernel_rfl)) (fun _ _ _ h => h) (Or.inl ⟨by rfl,?_⟩) hHeld ?_ ?_
            rotate_left
            ·rintro w' ⟨s0,s1⟩
             go_simp
             with_reducible rfl
            rotate_left
            ·simp only [Act.put,pS]
             rfl
            refine one_ (i:=3) (N:=some 21) #[true,true,true,true,false,false,true,true,false,false,false,false,false] rfl rfl (one_of HT_.out (by kernel_rfl)) (by decide) (fun K hK => ?_)
            refine goes_ Tryd.func12 (by kernel_rfl) rfl #[.int .i64 ((rd_T39 l0_0 x14_1).f0)] (by rfl) rfl rfl (by (try simp only [List.map_toArray,List.map_cons,List.map_nil]);first|done|rfl|(simp only [List.length_drop,List.length_take];rfl)) ?_
            with_reducible refine (spec_l5decimal.calls k1 ((rd_T39 l0_0 x14_1).f0) t131 _ A11.out).mono ?_
            rintro e w23 ⟨rfl,hb⟩
            refine ⟨_,rfl,?_⟩
            have n0_:=Am (blk_below (g:=gb127) (o:=.cells #[.slice (some ad129) l0_0.length c0_0,.slice A0_1 l0_1.length c0_1,.int .i64 a0_2,.int .i64 a0_3,.int .i64 a0_4] 31 (0,0)) (by (with_reducible repeat (first|refine kN ?_ _|refine kD ?_|refine kA ?_ _));exact BK127.out) hb)
            have n1_:=Am (blk_below (g:=gb130) (o:=.cells #[.int .i64 ((rd_T39 l0_0 x14_1).f0),.int .i64 ((rd_T39 l0_0 x14_1).f1)] 39 (0,0)) (by (with_reducible repeat (first|refine kN ?_ _|refine kD ?_|refine kA ?_ _));exact BK130.out) hb)
            have n2_:=Am (below_step (by repeat (first|(with_reducible first|exact HB.out|apply bA|apply bN|apply bD|refine bS ?_ GE127.out|refine bS ?_ GE130.out)|exact HB.out)) hb)
            clear BK127
            clear BK130
            clear HB
            have BK127:=n0_
            have BK130:=n1_
            have HB:=n2_
            clear n0_ n1_ n2_
            (try clear hb)
            (try clear hb2)
            (try clear hk)
            (try clear hi)
            refine hK.out _ _ ⟨(kC BK130.out 0).trans rfl,(kC BK130.out 1).trans rfl⟩ (fun hHeld => ?_)
            clear hK K
            refine norm_ (a':=?_) ?_ ?_
            rotate_left
            ·show Act.put _ (some 21) _ = _
             simp only [Act.put,pS]
             rfl
            refine pure_ (i:=4) (N:=some 22) (v:=?_) (a':=?_) #[true,true,true,true,true,false,true,true,false,false,false,false,false] rfl rfl (any_of HT_.out (by kernel_rfl)) (fun _ _ _ h => h) (Or.inl ⟨by rfl,?_⟩) ?_ ?_
            rotate_left
            ·intro w'
             go_simp
             with_reducible rfl
            rotate_left
            ·simp only [Act.put,pS]
             rfl
            refine pure_ (i:=5) (N:=some 23) (v:=?_) (a':=?_) #[true,true,true,true,true,true,true,true,false,false,false,false,false] rfl rfl (any_of HT_.out (by kernel_rfl)) (fun _ _ _ h => h) (Or.inl ⟨by rfl,?_⟩) ?_ ?_
            rotate_left
            ·intro w'
             go_simp
             with_reducible rfl
            rotate_left
            ·simp only [Act.put,pS]
             rfl
            refine one_ (i:=8) (N:=some 26) #[true,true,true,true,true,true,true,true,true,false,false,false,false] rfl rfl (one_of HT_.out (by kernel_rfl)) (by decide) (fun K hK => ?_)
            refine goes_ Tryd.func12 (by kernel_rfl) rfl #[.int .i64 ((rd_T39 l0_0 x14_1).f1)] (by rfl) rfl rfl (by (try simp only [List.map_toArray,List.map_cons,List.map_nil]);first|done|rfl|(simp only [List.length_drop,List.length_take];rfl)) ?_
            with_reducible refine (spec_l5decimal.calls k1 ((rd_T39 l0_0 x14_1).f1) t132 _ A14.out).mono ?_
            rintro e w24 ⟨rfl,hb⟩
            refine ⟨_,rfl,?_⟩
            have n0_:=Am (blk_below (g:=gb127) (o:=.cells #[.slice (some ad129) l0_0.length c0_0,.slice A0_1 l0_1.length c0_1,.int .i64 a0_2,.int .i64 a0_3,.int .i64 a0_4] 31 (0,0)) (by (with_reducible repeat (first|refine kN ?_ _|refine kD ?_|refine kA ?_ _));exact BK127.out) hb)
            have n1_:=Am (blk_below (g:=gb130) (o:=.cells #[.int .i64 ((rd_T39 l0_0 x14_1).f0),.int .i64 ((rd_T39 l0_0 x14_1).f1)] 39 (0,0)) (by (with_reducible repeat (first|refine kN ?_ _|refine kD ?_|refine kA ?_ _));exact BK130.out) hb)
            have n2_:=Am (below_step (by repeat (first|(with_reducible first|exact HB.out|apply bA|apply bN|apply bD|refine bS ?_ GE127.out|refine bS ?_ GE130.out)|exact HB.out)) hb)
            clear BK127
            clear BK130
            clear HB
            have BK127:=n0_
            have BK130:=n1_
            have HB:=n2_
            clear n0_ n1_ n2_
            (try clear hb)
            (try clear hb2)
            (try clear hk)
            (try clear hi)
            refine hK.out _ _ ⟨(kC BK130.out 0).trans rfl,(kC BK130.out 1).trans rfl⟩ (fun hHeld => ?_)
            clear hK K
            refine norm_ (a':=?_) ?_ ?_
            rotate_left
            ·show Act.put _ (some 26) _ = _
             simp only [Act.put,pS]
             rfl
            refine pure_ (i:=9) (N:=some 27) (v:=?_) (a':=?_) #[true,true,true,true,true,true,true,true,true,true,false,false,false] rfl rfl (any_of HT_.out (by kernel_rfl)) (fun _ _ _ h => h) (Or.inl ⟨by rfl,?_⟩) ?_ ?_
            rotate_left
            ·intro w'
             go_simp
             with_reducible rfl
            rotate_left
            ·simp only [Act.put,pS]
             rfl
            refine pure_ (i:=10) (N:=some 28) (v:=?_) (a':=?_) #[true,true,true,true,true,true,true,true,true,true,true,false,false] rfl rfl (any_of HT_.out (by kernel_rfl)) (fun _ _ _ h => h) (Or.inl ⟨by rfl,?_⟩) ?_ ?_
            rotate_left
            ·intro w'
             go_simp
             with_reducible rfl
            rotate_left
            ·simp only [Act.put,pS]
             rfl
            refine pure_ (i:=11) (N:=some 29) (v:=?_) (a':=?_) #[true,true,true,true,true,true,true,true,true,true,true,true,false] rfl rfl (any_of HT_.out (by kernel_rfl)) (fun _ _ _ h => h) (Or.inl ⟨by rfl,?_⟩) ?_ ?_
            rotate_left
            ·intro w'
             go_simp
             with_reducible rfl
            rotate_left
            ·simp only [Act.put,pS]
             rfl
            refine pure_ (i:=12) (N:=some 3) (v:=?_) (a':=?_) #[true,true,true,true,true,true,true,true,true,true,true,true,true] rfl rfl (any_of HT_.out (by kernel_rfl)) (fun _ _ _ h => h) (Or.inl ⟨by rfl,?_⟩) ?_ ?_
            rotate_left
            ·intro w'
             go_simp
             with_reducible rfl
            rotate_left
            ·simp only [Act.put,pS]
             rfl
            refine done_ (done_of HT_.out (by kernel_rfl)) ?_
            try go_wp2
            go_roundg k1
            case measure => have:=HK1.out;omega
            case rel => exact ⟨(x3_1 ++ (((((⟨#[116,114,97,99,107,32]⟩ : ByteArray) ++ t131) ++ (⟨#[32,98,114,97,107,101,32]⟩ : ByteArray)) ++ t132) ++ (⟨#[10]⟩ : ByteArray))),(wrap64 (x14_1 + 1)),(by first|rfl|(simp;done)|(simp [*];done)),(by first|rfl|(simp;done)|(simp [*];done)),H',⟨by have:=HK1.out;omega⟩,⟨by (with_reducible repeat (first|refine kN ?_ _|refine kD ?_|refine kA ?_ _));exact BK127.out⟩,⟨by repeat (first|(with_reducible first|exact HB.out|apply bA|apply bN|apply bD|refine bS ?_ GE127.out|refine bS ?_ GE130.out)|exact HB.out)⟩⟩
           ·rw [if_neg c17] at H
            exact absurd H (by simp)
          ·rw [if_neg c16] at H
           exact absurd H (by simp)
         ·rw [if_neg c15] at H
          exact absurd H (by simp)
        ·rw [if_neg c13] at H
         exact absurd H (by simp)
       ·rw [if_neg c12] at H
        exact absurd H (by simp)
      ·rw [if_neg c10] at H
       exact absurd H (by simp)
     ·rw [if_neg c9] at H
      exact absurd H (by simp)
    ·rw [if_neg c8] at H
     have c8b0 : decide (x14_1 < (l0_0.length : Int)) = false:=decide_eq_false c8
     clear c8
     have H':=Am H
     clear H
     have hcz25_0 : wr.cell? ⟨gb127,0,none⟩ = some (.slice A0_0 l0_0.length c0_0):=(kC BK127.out 0).trans rfl
     have hcz25_1 : wr.cell? ⟨gb127,1,none⟩ = some (.slice A0_1 l0_1.length c0_1):=(kC BK127.out 1).trans rfl
     have hcz25_2 : wr.cell? ⟨gb127,2,none⟩ = some (.int .i64 a0_2):=(kC BK127.out 2).trans rfl
     have hcz25_3 : wr.cell? ⟨gb127,3,none⟩ = some (.int .i64 a0_3):=(kC BK127.out 3).trans rfl
     have hcz25_4 : wr.cell? ⟨gb127,4,none⟩ = some (.int .i64 a0_4):=(kC BK127.out 4).trans rfl
     have hfz25_0:=kF BK127.out 0
     have hfz25_1:=kF BK127.out 1
     have hfz25_2:=kF BK127.out 2
     have hfz25_3:=kF BK127.out 3
     have hfz25_4:=kF BK127.out 4
     go_wp2
     go_loopg [3,34] k1 (fun kq v3 v34 w' => ∃ (x3_2 : ByteArray) (x34_2 : Int),v3 = .string x3_2∧v34 = .int .i64 x34_2∧As (spec_WriteProfile.l1 kq x3_2 l0_1 (l0_1.length : Int) x34_2 l0_0 l0_1 a0_2 a0_3 a0_4 = some r)∧As (kq ≤ k1)∧As (w'.heap[gb127]? = some (.cells #[(.slice A0_0 l0_0.length c0_0),(.slice A0_1 l0_1.length c0_1),.int .i64 a0_2,.int .i64 a0_3,.int .i64 a0_4] 31 (0,0)))∧As (Below w.heap.size w w'))
     case atStart => exact ⟨(x3_1),(0),(by first|rfl|(simp;done)|(simp [*];done)),(by first|rfl|(simp;done)|(simp [*];done)),H',⟨Nat.le_refl _⟩,⟨by (with_reducible repeat (first|refine kN ?_ _|refine kD ?_|refine kA ?_ _));exact BK127.out⟩,⟨by repeat (first|(with_reducible first|exact HB.out|apply bA|apply bN|apply bD|refine bS ?_ GE127.out)|exact HB.out)⟩⟩
     case round =>
      clear H'
      try clear c1
      try clear p1
      try clear q1
      try clear hx1
      try clear p2
      try clear c3
      try clear c3b0
      try clear c3b1
      try clear c5
      try clear p6
      try clear c8
      try clear c8b0
      try clear c9
      try clear c9b0
      try clear c10
      try clear c10b0
      try clear c11
      try clear c12
      try clear c12b0
      try clear c12b1
      try clear c12b2
      try clear p12
      try clear q12
      try clear hx12
      try clear c13
      try clear c13b0
      try clear c13b1
      try clear c13b2
      try clear c15
      try clear c15b0
      try clear c15b1
      try clear c15b2
      try clear c16
      try clear c16b0
      try clear c16b1
      try clear c16b2
      try clear c17
      try clear c17b0
      try clear c17b1
      try clear c17b2
      try clear c19
      try clear hcz20_0
      try clear hcz20_1
      try clear hcz25_0
      try clear hcz25_1
      try clear hcz25_2
      try clear hcz25_3
      try clear hcz25_4
      try clear hcz5_0
      try clear hcz5_1
      try clear hcz5_2
      try clear hcz5_3
      try clear hcz5_4
      try clear hcz7_0
      try clear hcz7_1
      try clear hcz7_2
      try clear hcz7_3
      try clear hcz7_4
      try clear hfz20_0
      try clear hfz20_1
      try clear hfz25_0
      try clear hfz25_1
      try clear hfz25_2
      try clear hfz25_3
      try clear hfz25_4
      try clear hfz5_0
      try clear hfz5_1
      try clear hfz5_2
      try clear hfz5_3
      try clear hfz5_4
      try clear hfz7_0
      try clear hfz7_1
      try clear hfz7_2
      try clear hfz7_3
      try clear hfz7_4
      try clear hx129_0
      try clear hx129_1
      try clear p129
      try clear p2
      try clear q129
      obtain ⟨x3_2,x34_2,rfl,rfl,HA,HK2,BK127,HB⟩:=hrel
      cases gk with
      | zero => exact absurd HA.out (by simp [spec_WriteProfile.l1])
      | succ k2 =>
       have H:=HA.out
       clear HA
       simp only [spec_WriteProfile.l1] at H
       by_cases c26 : x34_2 < (l0_1.length : Int)
       ·rw [if_pos c26] at H
        have c26b0 : decide (x34_2 < (l0_1.length : Int)) = true:=decide_eq_true c26
        clear c26
        by_cases c27 : 0 ≤ x34_2
        ·rw [if_pos c27] at H
         have c27b0 : decide (0 ≤ x34_2) = true:=decide_eq_true c27
         clear c27
         by_cases c28 : x34_2 < (l0_1.length : Int)
         ·rw [if_pos c28] at H
          have c28b0 : decide (x34_2 < (l0_1.length : Int)) = true:=decide_eq_true c28
          clear c28
          replace H:=Option.bind_eq_some_iff.mp H
          obtain ⟨t135,A290,H⟩:=H
          replace H : (if 6 + t135.size ≤ 9223372036854775807 then (if ((⟨#[108,105,109,105,116,32]⟩ : ByteArray) ++ t135).size + 1 ≤ 9223372036854775807 then ((spec_l5decimal.f k2 ((rd_T42 l0_1 x34_2).f1)).bind fun t136 => (if (((⟨#[108,105,109,105,116,32]⟩ : ByteArray) ++ t135) ++ (⟨#[32]⟩ : ByteArray)).size + t136.size ≤ 9223372036854775807 then (if ((((⟨#[108,105,109,105,116,32]⟩ : ByteArray) ++ t135) ++ (⟨#[32]⟩ : ByteArray)) ++ t136).size + 1 ≤ 9223372036854775807 then ((spec_l5decimal.f k2 ((rd_T42 l0_1 x34_2).f2)).bind fun t137 => (if (((((⟨#[108,105,109,105,116,32]⟩ : ByteArray) ++ t135) ++ (⟨#[32]⟩ : ByteArray)) ++ t136) ++ (⟨#[32]⟩ : ByteArray)).size + t137.size ≤ 9223372036854775807 then (if ((((((⟨#[108,105,109,105,116,32]⟩ : ByteArray) ++ t135) ++ (⟨#[32]⟩ : ByteArray)) ++ t136) ++ (⟨#[32]⟩ : ByteArray)) ++ t137).size + 1 ≤ 9223372036854775807 then (if x3_2.size + (((((((⟨#[108,105,109,105,116,32]⟩ : ByteArray) ++ t135) ++ (⟨#[32]⟩ : ByteArray)) ++ t136) ++ (⟨#[32]⟩ : ByteArray)) ++ t137) ++ (⟨#[10]⟩ : ByteArray)).size ≤ 9223372036854775807 then (spec_WriteProfile.l1 k2 (x3_2 ++ (((((((⟨#[108,105,109,105,116,32]⟩ : ByteArray) ++ t135) ++ (⟨#[32]⟩ : ByteArray)) ++ t136) ++ (⟨#[32]⟩ : ByteArray)) ++ t137) ++ (⟨#[10]⟩ : ByteArray))) l0_1 (l0_1.length : Int) (wrap64 (x34_2 + 1)) l0_0 l0_1 a0_2 a0_3 a0_4) else (none)) else (none)) else (none))) else (none)) else (none))) else (none)) else (none)) = some r:=H
          have A29:=Am A290
          clear A290
          by_cases c30 : 6 + t135.size ≤ 9223372036854775807
          ·rw [if_pos c30] at H
           have c30b0:=eq_true c30
           have c30b1 : decide (6 + t135.size ≤ 9223372036854775807) = true:=decide_eq_true c30
           try have c30b2 : (9223372036854775807 < 6 + t135.size) = False:=eq_false (Nat.not_lt.2 c30)
           by_cases c31 : ((⟨#[108,105,109,105,116,32]⟩ : ByteArray) ++ t135).size + 1 ≤ 9223372036854775807
           ·rw [if_pos c31] at H
            have c31b0:=eq_true c31
            have c31b1 : decide (((⟨#[108,105,109,105,116,32]⟩ : ByteArray) ++ t135).size + 1 ≤ 9223372036854775807) = true:=decide_eq_true c31
            try have c31b2 : (9223372036854775807 < ((⟨#[108,105,109,105,116,32]⟩ : ByteArray) ++ t135).size + 1) = False:=eq_false (Nat.not_lt.2 c31)
            try have c31b3 : (9223372036854775807 < 6 + t135.size + 1) = False:=eq_false (Nat.not_lt.2 (by have h_:=c31;simp only [ByteArray.size_append] at h_;exact h_))
            replace H:=Option.bind_eq_some_iff.mp H
            obtain ⟨t136,A320,H⟩:=H
            replace H : (if (((⟨#[108,105,109,105,116,32]⟩ : ByteArray) ++ t135) ++ (⟨#[32]⟩ : ByteArray)).size + t136.size ≤ 9223372036854775807 then (if ((((⟨#[108,105,109,105,116,32]⟩ : ByteArray) ++ t135) ++ (⟨#[32]⟩ : ByteArray)) ++ t136).size + 1 ≤ 9223372036854775807 then ((spec_l5decimal.f k2 ((rd_T42 l0_1 x34_2).f2)).bind fun t137 => (if (((((⟨#[108,105,109,105,116,32]⟩ : ByteArray) ++ t135) ++ (⟨#[32]⟩ : ByteArray)) ++ t136) ++ (⟨#[32]⟩ : ByteArray)).size + t137.size ≤ 9223372036854775807 then (if ((((((⟨#[108,105,109,105,116,32]⟩ : ByteArray) ++ t135) ++ (⟨#[32]⟩ : ByteArray)) ++ t136) ++ (⟨#[32]⟩ : ByteArray)) ++ t137).size + 1 ≤ 9223372036854775807 then (if x3_2.size + (((((((⟨#[108,105,109,105,116,32]⟩ : ByteArray) ++ t135) ++ (⟨#[32]⟩ : ByteArray)) ++ t136) ++ (⟨#[32]⟩ : ByteArray)) ++ t137) ++ (⟨#[10]⟩ : ByteArray)).size ≤ 9223372036854775807 then (spec_WriteProfile.l1 k2 (x3_2 ++ (((((((⟨#[108,105,109,105,116,32]⟩ : ByteArray) ++ t135) ++ (⟨#[32]⟩ : ByteArray)) ++ t136) ++ (⟨#[32]⟩ : ByteArray)) ++ t137) ++ (⟨#[10]⟩ : ByteArray))) l0_1 (l0_1.length : Int) (wrap64 (x34_2 + 1)) l0_0 l0_1 a0_2 a0_3 a0_4) else (none)) else (none)) else (none))) else (none)) else (none)) = some r:=H
            have A32:=Am A320
            clear A320
            by_cases c33 : (((⟨#[108,105,109,105,116,32]⟩ : ByteArray) ++ t135) ++ (⟨#[32]⟩ : ByteArray)).size + t136.size ≤ 9223372036854775807
            ·rw [if_pos c33] at H
             have c33b0:=eq_true c33
             have c33b1 : decide ((((⟨#[108,105,109,105,116,32]⟩ : ByteArray) ++ t135) ++ (⟨#[32]⟩ : ByteArray)).size + t136.size ≤ 9223372036854775807) = true:=decide_eq_true c33
             try have c33b2 : (9223372036854775807 < (((⟨#[108,105,109,105,116,32]⟩ : ByteArray) ++ t135) ++ (⟨#[32]⟩ : ByteArray)).size + t136.size) = False:=eq_false (Nat.not_lt.2 c33)
             try have c33b3 : (9223372036854775807 < 6 + t135.size + 1 + t136.size) = False:=eq_false (Nat.not_lt.2 (by have h_:=c33;simp only [ByteArray.size_append] at h_;exact h_))
             by_cases c34 : ((((⟨#[108,105,109,105,116,32]⟩ : ByteArray) ++ t135) ++ (⟨#[32]⟩ : ByteArray)) ++ t136).size + 1 ≤ 9223372036854775807
             ·rw [if_pos c34] at H
              have c34b0:=eq_true c34
              have c34b1 : decide (((((⟨#[108,105,109,105,116,32]⟩ : ByteArray) ++ t135) ++ (⟨#[32]⟩ : ByteArray)) ++ t136).size + 1 ≤ 9223372036854775807) = true:=decide_eq_true c34
              try have c34b2 : (9223372036854775807 < ((((⟨#[108,105,109,105,116,32]⟩ : ByteArray) ++ t135) ++ (⟨#[32]⟩ : ByteArray)) ++ t136).size + 1) = False:=eq_false (Nat.not_lt.2 c34)
              try have c34b3 : (9223372036854775807 < 6 + t135.size + 1 + t136.size + 1) = False:=eq_false (Nat.not_lt.2 (by have h_:=c34;simp only [ByteArray.size_append] at h_;exact h_))
              replace H:=Option.bind_eq_some_iff.mp H
              obtain ⟨t137,A350,H⟩:=H
              replace H : (if (((((⟨#[108,105,109,105,116,32]⟩ : ByteArray) ++ t135) ++ (⟨#[32]⟩ : ByteArray)) ++ t136) ++ (⟨#[32]⟩ : ByteArray)).size + t137.size ≤ 9223372036854775807 then (if ((((((⟨#[108,105,109,105,116,32]⟩ : ByteArray) ++ t135) ++ (⟨#[32]⟩ : ByteArray)) ++ t136) ++ (⟨#[32]⟩ : ByteArray)) ++ t137).size + 1 ≤ 9223372036854775807 then (if x3_2.size + (((((((⟨#[108,105,109,105,116,32]⟩ : ByteArray) ++ t135) ++ (⟨#[32]⟩ : ByteArray)) ++ t136) ++ (⟨#[32]⟩ : ByteArray)) ++ t137) ++ (⟨#[10]⟩ : ByteArray)).size ≤ 9223372036854775807 then (spec_WriteProfile.l1 k2 (x3_2 ++ (((((((⟨#[108,105,109,105,116,32]⟩ : ByteArray) ++ t135) ++ (⟨#[32]⟩ : ByteArray)) ++ t136) ++ (⟨#[32]⟩ : ByteArray)) ++ t137) ++ (⟨#[10]⟩ : ByteArray))) l0_1 (l0_1.length : Int) (wrap64 (x34_2 + 1)) l0_0 l0_1 a0_2 a0_3 a0_4) else (none)) else (none)) else (none)) = some r:=H
              have A35:=Am A350
              clear A350
              by_cases c36 : (((((⟨#[108,105,109,105,116,32]⟩ : ByteArray) ++ t135) ++ (⟨#[32]⟩ : ByteArray)) ++ t136) ++ (⟨#[32]⟩ : ByteArray)).size + t137.size ≤ 9223372036854775807
              ·rw [if_pos c36] at H
               have c36b0:=eq_true c36
               have c36b1 : decide ((((((⟨#[108,105,109,105,116,32]⟩ : ByteArray) ++ t135) ++ (⟨#[32]⟩ : ByteArray)) ++ t136) ++ (⟨#[32]⟩ : ByteArray)).size + t137.size ≤ 9223372036854775807) = true:=decide_eq_true c36
               try have c36b2 : (9223372036854775807 < (((((⟨#[108,105,109,105,116,32]⟩ : ByteArray) ++ t135) ++ (⟨#[32]⟩ : ByteArray)) ++ t136) ++ (⟨#[32]⟩ : ByteArray)).size + t137.size) = False:=eq_false (Nat.not_lt.2 c36)
               try have c36b3 : (9223372036854775807 < 6 + t135.size + 1 + t136.size + 1 + t137.size) = False:=eq_false (Nat.not_lt.2 (by have h_:=c36;simp only [ByteArray.size_append] at h_;exact h_))
               by_cases c37 : ((((((⟨#[108,105,109,105,116,32]⟩ : ByteArray) ++ t135) ++ (⟨#[32]⟩ : ByteArray)) ++ t136) ++ (⟨#[32]⟩ : ByteArray)) ++ t137).size + 1 ≤ 9223372036854775807
               ·rw [if_pos c37] at H
                have c37b0:=eq_true c37
                have c37b1 : decide (((((((⟨#[108,105,109,105,116,32]⟩ : ByteArray) ++ t135) ++ (⟨#[32]⟩ : ByteArray)) ++ t136) ++ (⟨#[32]⟩ : ByteArray)) ++ t137).size + 1 ≤ 9223372036854775807) = true:=decide_eq_true c37
                try have c37b2 : (9223372036854775807 < ((((((⟨#[108,105,109,105,116,32]⟩ : ByteArray) ++ t135) ++ (⟨#[32]⟩ : ByteArray)) ++ t136) ++ (⟨#[32]⟩ : ByteArray)) ++ t137).size + 1) = False:=eq_false (Nat.not_lt.2 c37)
                try have c37b3 : (9223372036854775807 < 6 + t135.size + 1 + t136.size + 1 + t137.size + 1) = False:=eq_false (Nat.not_lt.2 (by have h_:=c37;simp only [ByteArray.size_append] at h_;exact h_))
                by_cases c38 : x3_2.size + (((((((⟨#[108,105,109,105,116,32]⟩ : ByteArray) ++ t135) ++ (⟨#[32]⟩ : ByteArray)) ++ t136) ++ (⟨#[32]⟩ : ByteArray)) ++ t137) ++ (⟨#[10]⟩ : ByteArray)).size ≤ 9223372036854775807
                ·rw [if_pos c38] at H
                 have c38b0:=eq_true c38
                 have c38b1 : decide (x3_2.size + (((((((⟨#[108,105,109,105,116,32]⟩ : ByteArray) ++ t135) ++ (⟨#[32]⟩ : ByteArray)) ++ t136) ++ (⟨#[32]⟩ : ByteArray)) ++ t137) ++ (⟨#[10]⟩ : ByteArray)).size ≤ 9223372036854775807) = true:=decide_eq_true c38
                 try have c38b2 : (9223372036854775807 < x3_2.size + (((((((⟨#[108,105,109,105,116,32]⟩ : ByteArray) ++ t135) ++ (⟨#[32]⟩ : ByteArray)) ++ t136) ++ (⟨#[32]⟩ : ByteArray)) ++ t137) ++ (⟨#[10]⟩ : ByteArray)).size) = False:=eq_false (Nat.not_lt.2 c38)
                 try have c38b3 : (9223372036854775807 < x3_2.size + (6 + t135.size + 1 + t136.size + 1 + t137.size + 1)) = False:=eq_false (Nat.not_lt.2 (by have h_:=c38;simp only [ByteArray.size_append] at h_;exact h_))
                 have H':=Am H
                 clear H
                 have p133 : 0 ≤ (x34_2 : Int):=of_decide_eq_true (by first|(with_reducible assumption)|assumption)
                 have q133 : x34_2 < (l0_1.length : Int):=of_decide_eq_true (by first|(with_reducible assumption)|assumption)
                 obtain ⟨ad133,e133,hx133_0,hx133_1,hx133_2⟩:=at_T42 HR0_1.out x34_2 p133 q133
                 cases e133
                 replace hx133_0:=(HB.out.cell (World.block_lt_of_cell? w _ hx133_0)).trans hx133_0
                 replace hx133_1:=(HB.out.cell (World.block_lt_of_cell? w _ hx133_1)).trans hx133_1
                 replace hx133_2:=(HB.out.cell (World.block_lt_of_cell? w _ hx133_2)).trans hx133_2
                 replace p133:=eq_true p133
                 replace q133:=eq_true q133
                 try go_wp2_with (first|((with_reducible refine gate_dst (N:=7) rfl ?_);refine box_event ?hg (N:=7) ?hd (cs:=#[.int .i64 0,.int .i64 0,.int .i64 0]) (t:=42) ?hr ?_;(case hd => rfl);(case hg => rfl);(case hr => first|(go_simp;done)|(go_simp;rfl));intro gb134 hg w39 hbox hb;have n0_:=Am (blk_below (g:=gb127) (o:=.cells #[.slice A0_0 l0_0.length c0_0,.slice (some ad133) l0_1.length c0_1,.int .i64 a0_2,.int .i64 a0_3,.int .i64 a0_4] 31 (0,0)) (by (with_reducible repeat (first|refine kN ?_ _|refine kD ?_|refine kA ?_ _));exact BK127.out) hb);have n1_:=Am (below_step (by repeat (first|(with_reducible first|exact HB.out|apply bA|apply bN|apply bD|refine bS ?_ GE127.out)|exact HB.out)) hb);have n2_:=Am (hbox);have n3_:=Am ((by rw [hg];exact (below_size (by repeat (first|(with_reducible first|exact HB.out|apply bA|apply bN|apply bD|refine bS ?_ GE127.out)|exact HB.out))) : w.heap.size ≤ gb134));have n4_:=Am ((by rw [hg];exact (below_size (by repeat (first|(with_reducible first|exact HB.out|apply bA|apply bN|apply bD|refine bS ?_ GE127.out)|exact HB.out))) : w.heap.size ≤ gb134));have n5_:=Am ((by rw [hg];exact Nat.ne_of_lt (blk_lt (g:=gb127) (o:=.cells #[.slice A0_0 l0_0.length c0_0,.slice (some ad133) l0_1.length c0_1,.int .i64 a0_2,.int .i64 a0_3,.int .i64 a0_4] 31 (0,0)) (by (with_reducible repeat (first|refine kN ?_ _|refine kD ?_|refine kA ?_ _));exact BK127.out)) : gb127 ≠ gb134));have n6_:=Am ((by rw [hg];exact Nat.ne_of_gt (blk_lt (g:=gb127) (o:=.cells #[.slice A0_0 l0_0.length c0_0,.slice (some ad133) l0_1.length c0_1,.int .i64 a0_2,.int .i64 a0_3,.int .i64 a0_4] 31 (0,0)) (by (with_reducible repeat (first|refine kN ?_ _|refine kD ?_|refine kA ?_ _));exact BK127.out)) : gb134 ≠ gb127));clear BK127;clear HB;have BK127:=n0_;have HB:=n1_;have BK134:=n2_;have GW134:=n3_;have GE134:=n4_;have NB127_134:=n5_;have NB134_127:=n6_;clear n0_ n1_ n2_ n3_ n4_ n5_ n6_;clear hb hbox hg;have hnb40:=NB134_127.out;have hnc40:=NB127_134.out;have hcz41_0 : w39.cell? ⟨gb134,0,none⟩ = some (.int .i64 0):=(kC BK134.out 0).trans rfl;have hcz41_1 : w39.cell? ⟨gb134,1,none⟩ = some (.int .i64 0):=(kC BK134.out 1).trans rfl;have hcz41_2 : w39.cell? ⟨gb134,2,none⟩ = some (.int .i64 0):=(kC BK134.out 2).trans rfl;have hfz41_0:=kF BK134.out 0;have hfz41_1:=kF BK134.out 1;have hfz41_2:=kF BK134.out 2))
                 have n0_ : As ((((w39.setCell ⟨gb134,0,none⟩ (.int .i64 ((rd_T42 l0_1 x34_2).f0))).setCell ⟨gb134,1,none⟩ (.int .i64 ((rd_T42 l0_1 x34_2).f1))).setCell ⟨gb134,2,none⟩ (.int .i64 ((rd_T42 l0_1 x34_2).f2))).heap[gb127]? = some (.cells #[.slice A0_0 l0_0.length c0_0,.slice (some ad133) l0_1.length c0_1,.int .i64 a0_2,.int .i64 a0_3,.int .i64 a0_4] 31 (0,0))):=⟨by (with_reducible repeat (first|refine kN ?_ _|refine kD ?_|refine kA ?_ _));refine blk_far ?_ NB127_134.out _;(with_reducible repeat (first|refine kN ?_ _|refine kD ?_|refine kA ?_ _));refine blk_far ?_ NB127_134.out _;(with_reducible repeat (first|refine kN ?_ _|refine kD ?_|refine kA ?_ _));refine blk_far ?_ NB127_134.out _;(with_reducible repeat (first|refine kN ?_ _|refine kD ?_|refine kA ?_ _));exact BK127.out⟩
                 have n1_ : As ((((w39.setCell ⟨gb134,0,none⟩ (.int .i64 ((rd_T42 l0_1 x34_2).f0))).setCell ⟨gb134,1,none⟩ (.int .i64 ((rd_T42 l0_1 x34_2).f1))).setCell ⟨gb134,2,none⟩ (.int .i64 ((rd_T42 l0_1 x34_2).f2))).heap[gb134]? = some (.cells #[.int .i64 ((rd_T42 l0_1 x34_2).f0),.int .i64 ((rd_T42 l0_1 x34_2).f1),.int .i64 ((rd_T42 l0_1 x34_2).f2)] 42 (0,0))):=⟨by (with_reducible repeat (first|refine kN ?_ _|refine kD ?_|refine kA ?_ _));refine blk_put (cs:=#[.int .i64 ((rd_T42 l0_1 x34_2).f0),.int .i64 ((rd_T42 l0_1 x34_2).f1),.int .i64 0]) ?_ 2 _ rfl;(with_reducible repeat (first|refine kN ?_ _|refine kD ?_|refine kA ?_ _));refine blk_put (cs:=#[.int .i64 ((rd_T42 l0_1 x34_2).f0),.int .i64 0,.int .i64 0]) ?_ 1 _ rfl;(with_reducible repeat (first|refine kN ?_ _|refine kD ?_|refine kA ?_ _));refine blk_put (cs:=#[.int .i64 0,.int .i64 0,.int .i64 0]) ?_ 0 _ rfl;(with_reducible repeat (first|refine kN ?_ _|refine kD ?_|refine kA ?_ _));exact BK134.out⟩
                 have n2_ : As (Below w.heap.size w (((w39.setCell ⟨gb134,0,none⟩ (.int .i64 ((rd_T42 l0_1 x34_2).f0))).setCell ⟨gb134,1,none⟩ (.int .i64 ((rd_T42 l0_1 x34_2).f1))).setCell ⟨gb134,2,none⟩ (.int .i64 ((rd_T42 l0_1 x34_2).f2)))):=⟨by repeat (first|(with_reducible first|exact HB.out|apply bA|apply bN|apply bD|refine bS ?_ GE127.out|refine bS ?_ GE134.out)|exact HB.out)⟩
                 (try clear BK127)
                 (try clear BK134)
                 (try clear HB)
                 generalize (((w39.setCell ⟨gb134,0,none⟩ (.int .i64 ((rd_T42 l0_1 x34_2).f0))).setCell ⟨gb134,1,none⟩ (.int .i64 ((rd_T42 l0_1 x34_2).f1))).setCell ⟨gb134,2,none⟩ (.int .i64 ((rd_T42 l0_1 x34_2).f2))) = w42 at n0_ n1_ n2_ ⊢
                 have BK127:=n0_
                 have BK134:=n1_
                 have HB:=n2_
                 clear n0_ n1_ n2_
                 have n0_:=Am (kD BK127.out)
                 have n1_:=Am (kD BK134.out)
                 have n2_:=Am (bD HB.out)
                 clear BK127
                 clear BK134
                 clear HB
                 have BK127:=n0_
                 have BK134:=n1_
                 have HB:=n2_
                 clear n0_ n1_ n2_
                 refine start_ (n:=18) (S:=fun w' => w'.cell? ⟨gb134,0,none⟩ = some (.int .i64 ((rd_T42 l0_1 x34_2).f0))∧w'.cell? ⟨gb134,1,none⟩ = some (.int .i64 ((rd_T42 l0_1 x34_2).f1))∧w'.cell? ⟨gb134,2,none⟩ = some (.int .i64 ((rd_T42 l0_1 x34_2).f2))) (ds:=[]) #[false,false,false,false,false,false,false,false,false,false,false,false,false,false,false,false,false,false] (by kernel_rfl) rfl rfl ⟨(kC BK134.out 0).trans rfl,(kC BK134.out 1).trans rfl,(kC BK134.out 2).trans rfl⟩ (fun hHeld => ?_);refine with_tabW spec_WriteProfile.tab12 spec_WriteProfile.bits12 (fun HT_ HW_ => ?_)
                 generalize w42.drew = w43 at BK127 BK134 HB hHeld ⊢
                 refine pure_ (i:=0) (N:=some 38) (v:=?_) (a':=?_) #[true,false,false,false,false,false,false,false,false,false,false,false,false,false,false,false,false,false] rfl rfl (any_of HT_.out (by kernel_rfl)) (fun _ _ _ h => h) (Or.inl ⟨by rfl,?_⟩) ?_ ?_
                 rotate_left
                 ·intro w'
                  go_simp
                  with_reducible rfl
                 rotate_left
                 ·simp only [Act.put,pS]
                  rfl
                 refine pure_ (i:=1) (N:=some 39) (v:=?_) (a':=?_) #[true,true,false,false,false,false,false,false,false,false,false,false,false,false,false,false,false,false] rfl rfl (any_of HT_.out (by kernel_rfl)) (fun _ _ _ h => h) (Or.inl ⟨by rfl,?_⟩) ?_ ?_
                 rotate_left
                 ·intro w'
                  go_simp
                  with_reducible rfl
                 rotate_left
                 ·simp only [Act.put,pS]
                  rfl
                 refine pure_ (i:=6) (N:=some 44) (v:=?_) (a':=?_) #[true,true,false,false,false,false,true,false,false,false,false,false,false,false,false,false,false,false] rfl rfl (any_of HT_.out (by kernel_rfl)) (fun _ _ _ h => h) (Or.inl ⟨by rfl,?_⟩) ?_ ?_
                 rotate_left
                 ·intro w'
                  go_simp
                  with_reducible rfl
                 rotate_left
                 ·simp only [Act.put,pS]
                  rfl
                 refine pure_ (i:=11) (N:=some 49) (v:=?_) (a':=?_) #[true,true,false,false,false,false,true,false,false,false,false,true,false,false,false,false,false,false] rfl rfl (any_of HT_.out (by kernel_rfl)) (fun _ _ _ h => h) (Or.inl ⟨by rfl,?_⟩) ?_ ?_
                 rotate_left
                 ·intro w'
                  go_simp
                  with_reducible rfl
                 rotate_left
                 ·simp only [Act.put,pS]
                  rfl
                 refine take_ (i:=2) (N:=some 40) (v:=?_) (a':=?_) #[true,true,true,false,false,false,true,false,false,false,false,true,false,false,false,false,false,false] rfl rfl (take_ofW HT_.out HW_.out (by kernel_rfl)) (fun _ _ _ h => h) (Or.inl ⟨by rfl,?_⟩) hHeld ?_ ?_
                 rotate_left
                 ·rintro w' ⟨s0,s1,s2⟩
                  go_simp
                  with_reducible rfl
                 rotate_left
                 ·simp only [Act.put,pS]
                  rfl
                 refine take_ (i:=7) (N:=some 45) (v:=?_) (a':=?_) #[true,true,true,false,false,false,true,true,false,false,false,true,false,false,false,false,false,false] rfl rfl (take_ofW HT_.out HW_.out (by kernel_rfl)) (fun _ _ _ h => h) (Or.inl ⟨by rfl,?_⟩) hHeld ?_ ?_
                 rotate_left
                 ·rintro w' ⟨s0,s1,s2⟩
                  go_simp
                  with_reducible rfl
                 rotate_left
                 ·simp only [Act.put,pS]
                  rfl
                 refine take_ (i:=12) (N:=some 50) (v:=?_) (a':=?_) #[true,true,true,false,false,false,true,true,false,false,false,true,true,false,false,false,false,false] rfl rfl (take_ofW HT_.out HW_.out (by kernel_rfl)) (fun _ _ _ h => h) (Or.inl ⟨by rfl,?_⟩) hHeld ?_ ?_
                 rotate_left
                 ·rintro w' ⟨s0,s1,s2⟩
                  go_simp
                  with_reducible rfl
                 rotate_left
                 ·simp only [Act.put,pS]
                  rfl
                 refine one_ (i:=3) (N:=some 41) #[true,true,true,true,false,false,true,true,false,false,false,true,true,false,false,false,false,false] rfl rfl (one_of HT_.out (by kernel_rfl)) (by decide) (fun K hK => ?_)
                 refine goes_ Tryd.func12 (by kernel_rfl) rfl #[.int .i64 ((rd_T42 l0_1 x34_2).f0)] (by rfl) rfl rfl (by (try simp only [List.map_toArray,List.map_cons,List.map_nil]);first|done|rfl|(simp only [List.length_drop,List.length_take];rfl)) ?_
                 with_reducible refine (spec_l5decimal.calls k2 ((rd_T42 l0_1 x34_2).f0) t135 _ A29.out).mono ?_
                 rintro e w44 ⟨rfl,hb⟩
                 refine ⟨_,rfl,?_⟩
                 have n0_:=Am (blk_below (g:=gb127) (o:=.cells #[.slice A0_0 l0_0.length c0_0,.slice (some ad133) l0_1.length c0_1,.int .i64 a0_2,.int .i64 a0_3,.int .i64 a0_4] 31 (0,0)) (by (with_reducible repeat (first|refine kN ?_ _|refine kD ?_|refine kA ?_ _));exact BK127.out) hb)
                 have n1_:=Am (blk_below (g:=gb134) (o:=.cells #[.int .i64 ((rd_T42 l0_1 x34_2).f0),.int .i64 ((rd_T42 l0_1 x34_2).f1),.int .i64 ((rd_T42 l0_1 x34_2).f2)] 42 (0,0)) (by (with_reducible repeat (first|refine kN ?_ _|refine kD ?_|refine kA ?_ _));exact BK134.out) hb)
                 have n2_:=Am (below_step (by repeat (first|(with_reducible first|exact HB.out|apply bA|apply bN|apply bD|refine bS ?_ GE127.out|refine bS ?_ GE134.out)|exact HB.out)) hb)
                 clear BK127
                 clear BK134
                 clear HB
                 have BK127:=n0_
                 have BK134:=n1_
                 have HB:=n2_
                 clear n0_ n1_ n2_
                 (try clear hb)
                 (try clear hb2)
                 (try clear hk)
                 (try clear hi)
                 refine hK.out _ _ ⟨(kC BK134.out 0).trans rfl,(kC BK134.out 1).trans rfl,(kC BK134.out 2).trans rfl⟩ (fun hHeld => ?_)
                 clear hK K
                 refine norm_ (a':=?_) ?_ ?_
                 rotate_left
                 ·show Act.put _ (some 41) _ = _
                  simp only [Act.put,pS]
                  rfl
                 refine pure_ (i:=4) (N:=some 42) (v:=?_) (a':=?_) #[true,true,true,true,true,false,true,true,false,false,false,true,true,false,false,false,false,false] rfl rfl (any_of HT_.out (by kernel_rfl)) (fun _ _ _ h => h) (Or.inl ⟨by rfl,?_⟩) ?_ ?_
                 rotate_left
                 ·intro w'
                  go_simp
                  with_reducible rfl
                 rotate_left
                 ·simp only [Act.put,pS]
                  rfl
                 refine pure_ (i:=5) (N:=some 43) (v:=?_) (a':=?_) #[true,true,true,true,true,true,true,true,false,false,false,true,true,false,false,false,false,false] rfl rfl (any_of HT_.out (by kernel_rfl)) (fun _ _ _ h => h) (Or.inl ⟨by rfl,?_⟩) ?_ ?_
                 rotate_left
                 ·intro w'
                  go_simp
                  with_reducible rfl
                 rotate_left
                 ·simp only [Act.put,pS]
                  rfl
                 refine one_ (i:=8) (N:=some 46) #[true,true,true,true,true,true,true,true,true,false,false,true,true,false,false,false,false,false] rfl rfl (one_of HT_.out (by kernel_rfl)) (by decide) (fun K hK => ?_)
                 refine goes_ Tryd.func12 (by kernel_rfl) rfl #[.int .i64 ((rd_T42 l0_1 x34_2).f1)] (by rfl) rfl rfl (by (try simp only [List.map_toArray,List.map_cons,List.map_nil]);first|done|rfl|(simp only [List.length_drop,List.length_take];rfl)) ?_
                 with_reducible refine (spec_l5decimal.calls k2 ((rd_T42 l0_1 x34_2).f1) t136 _ A32.out).mono ?_
                 rintro e w45 ⟨rfl,hb⟩
                 refine ⟨_,rfl,?_⟩
                 have n0_:=Am (blk_below (g:=gb127) (o:=.cells #[.slice A0_0 l0_0.length c0_0,.slice (some ad133) l0_1.length c0_1,.int .i64 a0_2,.int .i64 a0_3,.int .i64 a0_4] 31 (0,0)) (by (with_reducible repeat (first|refine kN ?_ _|refine kD ?_|refine kA ?_ _));exact BK127.out) hb)
                 have n1_:=Am (blk_below (g:=gb134) (o:=.cells #[.int .i64 ((rd_T42 l0_1 x34_2).f0),.int .i64 ((rd_T42 l0_1 x34_2).f1),.int .i64 ((rd_T42 l0_1 x34_2).f2)] 42 (0,0)) (by (with_reducible repeat (first|refine kN ?_ _|refine kD ?_|refine kA ?_ _));exact BK134.out) hb)
                 have n2_:=Am (below_step (by repeat (first|(with_reducible first|exact HB.out|apply bA|apply bN|apply bD|refine bS ?_ GE127.out|refine bS ?_ GE134.out)|exact HB.out)) hb)
                 clear BK127
                 clear BK134
                 clear HB
                 have BK127:=n0_
                 have BK134:=n1_
                 have HB:=n2_
                 clear n0_ n1_ n2_
                 (try clear hb)
                 (try clear hb2)
                 (try clear hk)
                 (try clear hi)
                 refine hK.out _ _ ⟨(kC BK134.out 0).trans rfl,(kC BK134.out 1).trans rfl,(kC BK134.out 2).trans rfl⟩ (fun hHeld => ?_)
                 clear hK K
                 refine norm_ (a':=?_) ?_ ?_
                 rotate_left
                 ·show Act.put _ (some 46) _ = _
                  simp only [Act.put,pS]
                  rfl
                 refine pure_ (i:=9) (N:=some 47) (v:=?_) (a':=?_) #[true,true,true,true,true,true,true,true,true,true,false,true,true,false,false,false,false,false] rfl rfl (any_of HT_.out (by kernel_rfl)) (fun _ _ _ h => h) (Or.inl ⟨by rfl,?_⟩) ?_ ?_
                 rotate_left
                 ·intro w'
                  go_simp
                  with_reducible rfl
                 rotate_left
                 ·simp only [Act.put,pS]
                  rfl
                 refine pure_ (i:=10) (N:=some 48) (v:=?_) (a':=?_) #[true,true,true,true,true,true,true,true,true,true,true,true,true,false,false,false,false,false] rfl rfl (any_of HT_.out (by kernel_rfl)) (fun _ _ _ h => h) (Or.inl ⟨by rfl,?_⟩) ?_ ?_
                 rotate_left
                 ·intro w'
                  go_simp
                  with_reducible rfl
                 rotate_left
                 ·simp only [Act.put,pS]
                  rfl
                 refine one_ (i:=13) (N:=some 51) #[true,true,true,true,true,true,true,true,true,true,true,true,true,true,false,false,false,false] rfl rfl (one_of HT_.out (by kernel_rfl)) (by decide) (fun K hK => ?_)
                 refine goes_ Tryd.func12 (by kernel_rfl) rfl #[.int .i64 ((rd_T42 l0_1 x34_2).f2)] (by rfl) rfl rfl (by (try simp only [List.map_toArray,List.map_cons,List.map_nil]);first|done|rfl|(simp only [List.length_drop,List.length_take];rfl)) ?_
                 with_reducible refine (spec_l5decimal.calls k2 ((rd_T42 l0_1 x34_2).f2) t137 _ A35.out).mono ?_
                 rintro e w46 ⟨rfl,hb⟩
                 refine ⟨_,rfl,?_⟩
                 have n0_:=Am (blk_below (g:=gb127) (o:=.cells #[.slice A0_0 l0_0.length c0_0,.slice (some ad133) l0_1.length c0_1,.int .i64 a0_2,.int .i64 a0_3,.int .i64 a0_4] 31 (0,0)) (by (with_reducible repeat (first|refine kN ?_ _|refine kD ?_|refine kA ?_ _));exact BK127.out) hb)
                 have n1_:=Am (blk_below (g:=gb134) (o:=.cells #[.int .i64 ((rd_T42 l0_1 x34_2).f0),.int .i64 ((rd_T42 l0_1 x34_2).f1),.int .i64 ((rd_T42 l0_1 x34_2).f2)] 42 (0,0)) (by (with_reducible repeat (first|refine kN ?_ _|refine kD ?_|refine kA ?_ _));exact BK134.out) hb)
                 have n2_:=Am (below_step (by repeat (first|(with_reducible first|exact HB.out|apply bA|apply bN|apply bD|refine bS ?_ GE127.out|refine bS ?_ GE134.out)|exact HB.out)) hb)
                 clear BK127
                 clear BK134
                 clear HB
                 have BK127:=n0_
                 have BK134:=n1_
                 have HB:=n2_
                 clear n0_ n1_ n2_
                 (try clear hb)
                 (try clear hb2)
                 (try clear hk)
                 (try clear hi)
                 refine hK.out _ _ ⟨(kC BK134.out 0).trans rfl,(kC BK134.out 1).trans rfl,(kC BK134.out 2).trans rfl⟩ (fun hHeld => ?_)
                 clear hK K
                 refine norm_ (a':=?_) ?_ ?_
                 rotate_left
                 ·show Act.put _ (some 51) _ = _
                  simp only [Act.put,pS]
                  rfl
                 refine pure_ (i:=14) (N:=some 52) (v:=?_) (a':=?_) #[true,true,true,true,true,true,true,true,true,true,true,true,true,true,true,false,false,false] rfl rfl (any_of HT_.out (by kernel_rfl)) (fun _ _ _ h => h) (Or.inl ⟨by rfl,?_⟩) ?_ ?_
                 rotate_left
                 ·intro w'
                  go_simp
                  with_reducible rfl
                 rotate_left
                 ·simp only [Act.put,pS]
                  rfl
                 refine pure_ (i:=15) (N:=some 53) (v:=?_) (a':=?_) #[true,true,true,true,true,true,true,true,true,true,true,true,true,true,true,true,false,false] rfl rfl (any_of HT_.out (by kernel_rfl)) (fun _ _ _ h => h) (Or.inl ⟨by rfl,?_⟩) ?_ ?_
                 rotate_left
                 ·intro w'
                  go_simp
                  with_reducible rfl
                 rotate_left
                 ·simp only [Act.put,pS]
                  rfl
                 refine pure_ (i:=16) (N:=some 54) (v:=?_) (a':=?_) #[true,true,true,true,true,true,true,true,true,true,true,true,true,true,true,true,true,false] rfl rfl (any_of HT_.out (by kernel_rfl)) (fun _ _ _ h => h) (Or.inl ⟨by rfl,?_⟩) ?_ ?_
                 rotate_left
                 ·intro w'
                  go_simp
                  with_reducible rfl
                 rotate_left
                 ·simp only [Act.put,pS]
                  rfl
                 refine pure_ (i:=17) (N:=some 3) (v:=?_) (a':=?_) #[true,true,true,true,true,true,true,true,true,true,true,true,true,true,true,true,true,true] rfl rfl (any_of HT_.out (by kernel_rfl)) (fun _ _ _ h => h) (Or.inl ⟨by rfl,?_⟩) ?_ ?_
                 rotate_left
                 ·intro w'
                  go_simp
                  with_reducible rfl
                 rotate_left
                 ·simp only [Act.put,pS]
                  rfl
                 refine done_ (done_of HT_.out (by kernel_rfl)) ?_
                 try go_wp2
                 go_roundg k2
                 case measure => have:=HK1.out;have:=HK2.out;omega
                 case rel => exact ⟨(x3_2 ++ (((((((⟨#[108,105,109,105,116,32]⟩ : ByteArray) ++ t135) ++ (⟨#[32]⟩ : ByteArray)) ++ t136) ++ (⟨#[32]⟩ : ByteArray)) ++ t137) ++ (⟨#[10]⟩ : ByteArray))),(wrap64 (x34_2 + 1)),(by first|rfl|(simp;done)|(simp [*];done)),(by first|rfl|(simp;done)|(simp [*];done)),H',⟨by have:=HK1.out;have:=HK2.out;omega⟩,⟨by (with_reducible repeat (first|refine kN ?_ _|refine kD ?_|refine kA ?_ _));exact BK127.out⟩,⟨by repeat (first|(with_reducible first|exact HB.out|apply bA|apply bN|apply bD|refine bS ?_ GE127.out|refine bS ?_ GE134.out)|exact HB.out)⟩⟩
                ·rw [if_neg c38] at H
                 exact absurd H (by simp)
               ·rw [if_neg c37] at H
                exact absurd H (by simp)
              ·rw [if_neg c36] at H
               exact absurd H (by simp)
             ·rw [if_neg c34] at H
              exact absurd H (by simp)
            ·rw [if_neg c33] at H
             exact absurd H (by simp)
           ·rw [if_neg c31] at H
            exact absurd H (by simp)
          ·rw [if_neg c30] at H
           exact absurd H (by simp)
         ·rw [if_neg c28] at H
          exact absurd H (by simp)
        ·rw [if_neg c27] at H
         exact absurd H (by simp)
       ·rw [if_neg c26] at H
        have c26b0 : decide (x34_2 < (l0_1.length : Int)) = false:=decide_eq_false c26
        clear c26
        replace H:=Option.bind_eq_some_iff.mp H
        obtain ⟨t138,A470,H⟩:=H
        replace H : (if 6 + t138.size ≤ 9223372036854775807 then (if ((⟨#[116,114,97,105,110,32]⟩ : ByteArray) ++ t138).size + 5 ≤ 9223372036854775807 then ((spec_l5decimal.f k2 a0_3).bind fun t139 => (if (((⟨#[116,114,97,105,110,32]⟩ : ByteArray) ++ t138) ++ (⟨#[32,101,110,100,32]⟩ : ByteArray)).size + t139.size ≤ 9223372036854775807 then (if ((((⟨#[116,114,97,105,110,32]⟩ : ByteArray) ++ t138) ++ (⟨#[32,101,110,100,32]⟩ : ByteArray)) ++ t139).size + 7 ≤ 9223372036854775807 then ((spec_l5decimal.f k2 a0_4).bind fun t140 => (if (((((⟨#[116,114,97,105,110,32]⟩ : ByteArray) ++ t138) ++ (⟨#[32,101,110,100,32]⟩ : ByteArray)) ++ t139) ++ (⟨#[32,100,101,108,97,121,32]⟩ : ByteArray)).size + t140.size ≤ 9223372036854775807 then (if ((((((⟨#[116,114,97,105,110,32]⟩ : ByteArray) ++ t138) ++ (⟨#[32,101,110,100,32]⟩ : ByteArray)) ++ t139) ++ (⟨#[32,100,101,108,97,121,32]⟩ : ByteArray)) ++ t140).size + 1 ≤ 9223372036854775807 then (if x3_2.size + (((((((⟨#[116,114,97,105,110,32]⟩ : ByteArray) ++ t138) ++ (⟨#[32,101,110,100,32]⟩ : ByteArray)) ++ t139) ++ (⟨#[32,100,101,108,97,121,32]⟩ : ByteArray)) ++ t140) ++ (⟨#[10]⟩ : ByteArray)).size ≤ 9223372036854775807 then (if ((x3_2 ++ (((((((⟨#[116,114,97,105,110,32]⟩ : ByteArray) ++ t138) ++ (⟨#[32,101,110,100,32]⟩ : ByteArray)) ++ t139) ++ (⟨#[32,100,101,108,97,121,32]⟩ : ByteArray)) ++ t140) ++ (⟨#[10]⟩ : ByteArray))).size : Int) > 3000 then (some (⟨#[]⟩ : ByteArray)) else (some (x3_2 ++ (((((((⟨#[116,114,97,105,110,32]⟩ : ByteArray) ++ t138) ++ (⟨#[32,101,110,100,32]⟩ : ByteArray)) ++ t139) ++ (⟨#[32,100,101,108,97,121,32]⟩ : ByteArray)) ++ t140) ++ (⟨#[10]⟩ : ByteArray))))) else (none)) else (none)) else (none))) else (none)) else (none))) else (none)) else (none)) = some r:=H
        have A47:=Am A470
        clear A470
        by_cases c48 : 6 + t138.size ≤ 9223372036854775807
        ·rw [if_pos c48] at H
         have c48b0:=eq_true c48
         have c48b1 : decide (6 + t138.size ≤ 9223372036854775807) = true:=decide_eq_true c48
         try have c48b2 : (9223372036854775807 < 6 + t138.size) = False:=eq_false (Nat.not_lt.2 c48)
         by_cases c49 : ((⟨#[116,114,97,105,110,32]⟩ : ByteArray) ++ t138).size + 5 ≤ 9223372036854775807
         ·rw [if_pos c49] at H
          have c49b0:=eq_true c49
          have c49b1 : decide (((⟨#[116,114,97,105,110,32]⟩ : ByteArray) ++ t138).size + 5 ≤ 9223372036854775807) = true:=decide_eq_true c49
          try have c49b2 : (9223372036854775807 < ((⟨#[116,114,97,105,110,32]⟩ : ByteArray) ++ t138).size + 5) = False:=eq_false (Nat.not_lt.2 c49)
          try have c49b3 : (9223372036854775807 < 6 + t138.size + 5) = False:=eq_false (Nat.not_lt.2 (by have h_:=c49;simp only [ByteArray.size_append] at h_;exact h_))
          replace H:=Option.bind_eq_some_iff.mp H
          obtain ⟨t139,A500,H⟩:=H
          replace H : (if (((⟨#[116,114,97,105,110,32]⟩ : ByteArray) ++ t138) ++ (⟨#[32,101,110,100,32]⟩ : ByteArray)).size + t139.size ≤ 9223372036854775807 then (if ((((⟨#[116,114,97,105,110,32]⟩ : ByteArray) ++ t138) ++ (⟨#[32,101,110,100,32]⟩ : ByteArray)) ++ t139).size + 7 ≤ 9223372036854775807 then ((spec_l5decimal.f k2 a0_4).bind fun t140 => (if (((((⟨#[116,114,97,105,110,32]⟩ : ByteArray) ++ t138) ++ (⟨#[32,101,110,100,32]⟩ : ByteArray)) ++ t139) ++ (⟨#[32,100,101,108,97,121,32]⟩ : ByteArray)).size + t140.size ≤ 9223372036854775807 then (if ((((((⟨#[116,114,97,105,110,32]⟩ : ByteArray) ++ t138) ++ (⟨#[32,101,110,100,32]⟩ : ByteArray)) ++ t139) ++ (⟨#[32,100,101,108,97,121,32]⟩ : ByteArray)) ++ t140).size + 1 ≤ 9223372036854775807 then (if x3_2.size + (((((((⟨#[116,114,97,105,110,32]⟩ : ByteArray) ++ t138) ++ (⟨#[32,101,110,100,32]⟩ : ByteArray)) ++ t139) ++ (⟨#[32,100,101,108,97,121,32]⟩ : ByteArray)) ++ t140) ++ (⟨#[10]⟩ : ByteArray)).size ≤ 9223372036854775807 then (if ((x3_2 ++ (((((((⟨#[116,114,97,105,110,32]⟩ : ByteArray) ++ t138) ++ (⟨#[32,101,110,100,32]⟩ : ByteArray)) ++ t139) ++ (⟨#[32,100,101,108,97,121,32]⟩ : ByteArray)) ++ t140) ++ (⟨#[10]⟩ : ByteArray))).size : Int) > 3000 then (some (⟨#[]⟩ : ByteArray)) else (some (x3_2 ++ (((((((⟨#[116,114,97,105,110,32]⟩ : ByteArray) ++ t138) ++ (⟨#[32,101,110,100,32]⟩ : ByteArray)) ++ t139) ++ (⟨#[32,100,101,108,97,121,32]⟩ : ByteArray)) ++ t140) ++ (⟨#[10]⟩ : ByteArray))))) else (none)) else (none)) else (none))) else (none)) else (none)) = some r:=H
          have A50:=Am A500
          clear A500
          by_cases c51 : (((⟨#[116,114,97,105,110,32]⟩ : ByteArray) ++ t138) ++ (⟨#[32,101,110,100,32]⟩ : ByteArray)).size + t139.size ≤ 9223372036854775807
          ·rw [if_pos c51] at H
           have c51b0:=eq_true c51
           have c51b1 : decide ((((⟨#[116,114,97,105,110,32]⟩ : ByteArray) ++ t138) ++ (⟨#[32,101,110,100,32]⟩ : ByteArray)).size + t139.size ≤ 9223372036854775807) = true:=decide_eq_true c51
           try have c51b2 : (9223372036854775807 < (((⟨#[116,114,97,105,110,32]⟩ : ByteArray) ++ t138) ++ (⟨#[32,101,110,100,32]⟩ : ByteArray)).size + t139.size) = False:=eq_false (Nat.not_lt.2 c51)
           try have c51b3 : (9223372036854775807 < 6 + t138.size + 5 + t139.size) = False:=eq_false (Nat.not_lt.2 (by have h_:=c51;simp only [ByteArray.size_append] at h_;exact h_))
           by_cases c52 : ((((⟨#[116,114,97,105,110,32]⟩ : ByteArray) ++ t138) ++ (⟨#[32,101,110,100,32]⟩ : ByteArray)) ++ t139).size + 7 ≤ 9223372036854775807
           ·rw [if_pos c52] at H
            have c52b0:=eq_true c52
            have c52b1 : decide (((((⟨#[116,114,97,105,110,32]⟩ : ByteArray) ++ t138) ++ (⟨#[32,101,110,100,32]⟩ : ByteArray)) ++ t139).size + 7 ≤ 9223372036854775807) = true:=decide_eq_true c52
            try have c52b2 : (9223372036854775807 < ((((⟨#[116,114,97,105,110,32]⟩ : ByteArray) ++ t138) ++ (⟨#[32,101,110,100,32]⟩ : ByteArray)) ++ t139).size + 7) = False:=eq_false (Nat.not_lt.2 c52)
            try have c52b3 : (9223372036854775807 < 6 + t138.size + 5 + t139.size + 7) = False:=eq_false (Nat.not_lt.2 (by have h_:=c52;simp only [ByteArray.size_append] at h_;exact h_))
            replace H:=Option.bind_eq_some_iff.mp H
            obtain ⟨t140,A530,H⟩:=H
            replace H : (if (((((⟨#[116,114,97,105,110,32]⟩ : ByteArray) ++ t138) ++ (⟨#[32,101,110,100,32]⟩ : ByteArray)) ++ t139) ++ (⟨#[32,100,101,108,97,121,32]⟩ : ByteArray)).size + t140.size ≤ 9223372036854775807 then (if ((((((⟨#[116,114,97,105,110,32]⟩ : ByteArray) ++ t138) ++ (⟨#[32,101,110,100,32]⟩ : ByteArray)) ++ t139) ++ (⟨#[32,100,101,108,97,121,32]⟩ : ByteArray)) ++ t140).size + 1 ≤ 9223372036854775807 then (if x3_2.size + (((((((⟨#[116,114,97,105,110,32]⟩ : ByteArray) ++ t138) ++ (⟨#[32,101,110,100,32]⟩ : ByteArray)) ++ t139) ++ (⟨#[32,100,101,108,97,121,32]⟩ : ByteArray)) ++ t140) ++ (⟨#[10]⟩ : ByteArray)).size ≤ 9223372036854775807 then (if ((x3_2 ++ (((((((⟨#[116,114,97,105,110,32]⟩ : ByteArray) ++ t138) ++ (⟨#[32,101,110,100,32]⟩ : ByteArray)) ++ t139) ++ (⟨#[32,100,101,108,97,121,32]⟩ : ByteArray)) ++ t140) ++ (⟨#[10]⟩ : ByteArray))).size : Int) > 3000 then (some (⟨#[]⟩ : ByteArray)) else (some (x3_2 ++ (((((((⟨#[116,114,97,105,110,32]⟩ : ByteArray) ++ t138) ++ (⟨#[32,101,110,100,32]⟩ : ByteArray)) ++ t139) ++ (⟨#[32,100,101,108,97,121,32]⟩ : ByteArray)) ++ t140) ++ (⟨#[10]⟩ : ByteArray))))) else (none)) else (none)) else (none)) = some r:=H
            have A53:=Am A530
            clear A530
            by_cases c54 : (((((⟨#[116,114,97,105,110,32]⟩ : ByteArray) ++ t138) ++ (⟨#[32,101,110,100,32]⟩ : ByteArray)) ++ t139) ++ (⟨#[32,100,101,108,97,121,32]⟩ : ByteArray)).size + t140.size ≤ 9223372036854775807
            ·rw [if_pos c54] at H
             have c54b0:=eq_true c54
             have c54b1 : decide ((((((⟨#[116,114,97,105,110,32]⟩ : ByteArray) ++ t138) ++ (⟨#[32,101,110,100,32]⟩ : ByteArray)) ++ t139) ++ (⟨#[32,100,101,108,97,121,32]⟩ : ByteArray)).size + t140.size ≤ 9223372036854775807) = true:=decide_eq_true c54
             try have c54b2 : (9223372036854775807 < (((((⟨#[116,114,97,105,110,32]⟩ : ByteArray) ++ t138) ++ (⟨#[32,101,110,100,32]⟩ : ByteArray)) ++ t139) ++ (⟨#[32,100,101,108,97,121,32]⟩ : ByteArray)).size + t140.size) = False:=eq_false (Nat.not_lt.2 c54)
             try have c54b3 : (9223372036854775807 < 6 + t138.size + 5 + t139.size + 7 + t140.size) = False:=eq_false (Nat.not_lt.2 (by have h_:=c54;simp only [ByteArray.size_append] at h_;exact h_))
             by_cases c55 : ((((((⟨#[116,114,97,105,110,32]⟩ : ByteArray) ++ t138) ++ (⟨#[32,101,110,100,32]⟩ : ByteArray)) ++ t139) ++ (⟨#[32,100,101,108,97,121,32]⟩ : ByteArray)) ++ t140).size + 1 ≤ 9223372036854775807
             ·rw [if_pos c55] at H
              have c55b0:=eq_true c55
              have c55b1 : decide (((((((⟨#[116,114,97,105,110,32]⟩ : ByteArray) ++ t138) ++ (⟨#[32,101,110,100,32]⟩ : ByteArray)) ++ t139) ++ (⟨#[32,100,101,108,97,121,32]⟩ : ByteArray)) ++ t140).size + 1 ≤ 9223372036854775807) = true:=decide_eq_true c55
              try have c55b2 : (9223372036854775807 < ((((((⟨#[116,114,97,105,110,32]⟩ : ByteArray) ++ t138) ++ (⟨#[32,101,110,100,32]⟩ : ByteArray)) ++ t139) ++ (⟨#[32,100,101,108,97,121,32]⟩ : ByteArray)) ++ t140).size + 1) = False:=eq_false (Nat.not_lt.2 c55)
              try have c55b3 : (9223372036854775807 < 6 + t138.size + 5 + t139.size + 7 + t140.size + 1) = False:=eq_false (Nat.not_lt.2 (by have h_:=c55;simp only [ByteArray.size_append] at h_;exact h_))
              by_cases c56 : x3_2.size + (((((((⟨#[116,114,97,105,110,32]⟩ : ByteArray) ++ t138) ++ (⟨#[32,101,110,100,32]⟩ : ByteArray)) ++ t139) ++ (⟨#[32,100,101,108,97,121,32]⟩ : ByteArray)) ++ t140) ++ (⟨#[10]⟩ : ByteArray)).size ≤ 9223372036854775807
              ·rw [if_pos c56] at H
               have c56b0:=eq_true c56
               have c56b1 : decide (x3_2.size + (((((((⟨#[116,114,97,105,110,32]⟩ : ByteArray) ++ t138) ++ (⟨#[32,101,110,100,32]⟩ : ByteArray)) ++ t139) ++ (⟨#[32,100,101,108,97,121,32]⟩ : ByteArray)) ++ t140) ++ (⟨#[10]⟩ : ByteArray)).size ≤ 9223372036854775807) = true:=decide_eq_true c56
               try have c56b2 : (9223372036854775807 < x3_2.size + (((((((⟨#[116,114,97,105,110,32]⟩ : ByteArray) ++ t138) ++ (⟨#[32,101,110,100,32]⟩ : ByteArray)) ++ t139) ++ (⟨#[32,100,101,108,97,121,32]⟩ : ByteArray)) ++ t140) ++ (⟨#[10]⟩ : ByteArray)).size) = False:=eq_false (Nat.not_lt.2 c56)
               try have c56b3 : (9223372036854775807 < x3_2.size + (6 + t138.size + 5 + t139.size + 7 + t140.size + 1)) = False:=eq_false (Nat.not_lt.2 (by have h_:=c56;simp only [ByteArray.size_append] at h_;exact h_))
               by_cases c57 : ((x3_2 ++ (((((((⟨#[116,114,97,105,110,32]⟩ : ByteArray) ++ t138) ++ (⟨#[32,101,110,100,32]⟩ : ByteArray)) ++ t139) ++ (⟨#[32,100,101,108,97,121,32]⟩ : ByteArray)) ++ t140) ++ (⟨#[10]⟩ : ByteArray))).size : Int) > 3000
               ·rw [if_pos c57] at H
                have c57b0 : decide (3000 < ((x3_2 ++ (((((((⟨#[116,114,97,105,110,32]⟩ : ByteArray) ++ t138) ++ (⟨#[32,101,110,100,32]⟩ : ByteArray)) ++ t139) ++ (⟨#[32,100,101,108,97,121,32]⟩ : ByteArray)) ++ t140) ++ (⟨#[10]⟩ : ByteArray))).size : Int)) = true:=decide_eq_true c57
                have c57b3 : decide (3000 < (x3_2.size : Int) + (6 + (t138.size : Int) + 5 + (t139.size : Int) + 7 + (t140.size : Int) + 1)) = true:=decide_eq_true (by have h_:=c57;simp only [ByteArray.size_append] at h_;have h2_ : ((x3_2.size + (6 + t138.size + 5 + t139.size + 7 + t140.size + 1) : Nat) : Int) > 3000:=h_;omega)
                have c57b1 : decide (3000 < (x3_2 ++ (((((((⟨#[116,114,97,105,110,32]⟩ : ByteArray) ++ t138) ++ (⟨#[32,101,110,100,32]⟩ : ByteArray)) ++ t139) ++ (⟨#[32,100,101,108,97,121,32]⟩ : ByteArray)) ++ t140) ++ (⟨#[10]⟩ : ByteArray))).size) = true:=decide_eq_true (by omega)
                clear c57
                obtain rfl:=Option.some.inj H
                try go_wp2
                have n0_:=Am (kD BK127.out)
                have n1_:=Am (bD HB.out)
                clear BK127
                clear HB
                have BK127:=n0_
                have HB:=n1_
                clear n0_ n1_
                refine start_ (n:=18) (S:=fun w' => w'.cell? ⟨gb127,0,none⟩ = some (.slice A0_0 l0_0.length c0_0)∧w'.cell? ⟨gb127,1,none⟩ = some (.slice A0_1 l0_1.length c0_1)∧w'.cell? ⟨gb127,2,none⟩ = some (.int .i64 a0_2)∧w'.cell? ⟨gb127,3,none⟩ = some (.int .i64 a0_3)∧w'.cell? ⟨gb127,4,none⟩ = some (.int .i64 a0_4)) (ds:=[]) #[false,false,false,false,false,false,false,false,false,false,false,false,false,false,false,false,false,false] (by kernel_rfl) rfl rfl ⟨(kC BK127.out 0).trans rfl,(kC BK127.out 1).trans rfl,(kC BK127.out 2).trans rfl,(kC BK127.out 3).trans rfl,(kC BK127.out 4).trans rfl⟩ (fun hHeld => ?_);refine with_tabW spec_WriteProfile.tab14 spec_WriteProfile.bits14 (fun HT_ HW_ => ?_)
                generalize wr.drew = w58 at BK127 HB hHeld ⊢
                refine pure_ (i:=0) (N:=some 56) (v:=?_) (a':=?_) #[true,false,false,false,false,false,false,false,false,false,false,false,false,false,false,false,false,false] rfl rfl (any_of HT_.out (by kernel_rfl)) (fun _ _ _ h => h) (Or.inl ⟨by rfl,?_⟩) ?_ ?_
                rotate_left
                ·intro w'
                 go_simp
                 with_reducible rfl
                rotate_left
                ·simp only [Act.put,pS]
                 rfl
                refine pure_ (i:=1) (N:=some 57) (v:=?_) (a':=?_) #[true,true,false,false,false,false,false,false,false,false,false,false,false,false,false,false,false,false] rfl rfl (any_of HT_.out (by kernel_rfl)) (fun _ _ _ h => h) (Or.inl ⟨by rfl,?_⟩) ?_ ?_
                rotate_left
                ·intro w'
                 go_simp
                 with_reducible rfl
                rotate_left
                ·simp only [Act.put,pS]
                 rfl
                refine pure_ (i:=6) (N:=some 62) (v:=?_) (a':=?_) #[true,true,false,false,false,false,true,false,false,false,false,false,false,false,false,false,false,false] rfl rfl (any_of HT_.out (by kernel_rfl)) (fun _ _ _ h => h) (Or.inl ⟨by rfl,?_⟩) ?_ ?_
                rotate_left
                ·intro w'
                 go_simp
                 with_reducible rfl
                rotate_left
                ·simp only [Act.put,pS]
                 rfl
                refine pure_ (i:=11) (N:=some 67) (v:=?_) (a':=?_) #[true,true,false,false,false,false,true,false,false,false,false,true,false,false,false,false,false,false] rfl rfl (any_of HT_.out (by kernel_rfl)) (fun _ _ _ h => h) (Or.inl ⟨by rfl,?_⟩) ?_ ?_
                rotate_left
                ·intro w'
                 go_simp
                 with_reducible rfl
                rotate_left
                ·simp only [Act.put,pS]
                 rfl
                refine take_ (i:=2) (N:=some 58) (v:=?_) (a':=?_) #[true,true,true,false,false,false,true,false,false,false,false,true,false,false,false,false,false,false] rfl rfl (take_ofW HT_.out HW_.out (by kernel_rfl)) (fun _ _ _ h => h) (Or.inl ⟨by rfl,?_⟩) hHeld ?_ ?_
                rotate_left
                ·rintro w' ⟨s0,s1,s2,s3,s4⟩
                 go_simp
                 with_reducible rfl
                rotate_left
                ·simp only [Act.put,pS]
                 rfl
                refine take_ (i:=7) (N:=some 63) (v:=?_) (a':=?_) #[true,true,true,false,false,false,true,true,false,false,false,true,false,false,false,false,false,false] rfl rfl (take_ofW HT_.out HW_.out (by kernel_rfl)) (fun _ _ _ h => h) (Or.inl ⟨by rfl,?_⟩) hHeld ?_ ?_
                rotate_left
                ·rintro w' ⟨s0,s1,s2,s3,s4⟩
                 go_simp
                 with_reducible rfl
                rotate_left
                ·simp only [Act.put,pS]
                 rfl
                refine take_ (i:=12) (N:=some 68) (v:=?_) (a':=?_) #[true,true,true,false,false,false,true,true,false,false,false,true,true,false,false,false,false,false] rfl rfl (take_ofW HT_.out HW_.out (by kernel_rfl)) (fun _ _ _ h => h) (Or.inl ⟨by rfl,?_⟩) hHeld ?_ ?_
                rotate_left
                ·rintro w' ⟨s0,s1,s2,s3,s4⟩
                 go_simp
                 with_reducible rfl
                rotate_left
                ·simp only [Act.put,pS]
                 rfl
                refine one_ (i:=3) (N:=some 59) #[true,true,true,true,false,false,true,true,false,false,false,true,true,false,false,false,false,false] rfl rfl (one_of HT_.out (by kernel_rfl)) (by decide) (fun K hK => ?_)
                refine goes_ Tryd.func12 (by kernel_rfl) rfl #[.int .i64 a0_2] (by rfl) rfl rfl (by (try simp only [List.map_toArray,List.map_cons,List.map_nil]);first|done|rfl|(simp only [List.length_drop,List.length_take];rfl)) ?_
                with_reducible refine (spec_l5decimal.calls k2 a0_2 t138 _ A47.out).mono ?_
                rintro e w59 ⟨rfl,hb⟩
                refine ⟨_,rfl,?_⟩
                have n0_:=Am (blk_below (g:=gb127) (o:=.cells #[.slice A0_0 l0_0.length c0_0,.slice A0_1 l0_1.length c0_1,.int .i64 a0_2,.int .i64 a0_3,.int .i64 a0_4] 31 (0,0)) (by (with_reducible repeat (first|refine kN ?_ _|refine kD ?_|refine kA ?_ _));exact BK127.out) hb)
                have n1_:=Am (below_step (by repeat (first|(with_reducible first|exact HB.out|apply bA|apply bN|apply bD|refine bS ?_ GE127.out)|exact HB.out)) hb)
                clear BK127
                clear HB
                have BK127:=n0_
                have HB:=n1_
                clear n0_ n1_
                (try clear hb)
                (try clear hb2)
                (try clear hk)
                (try clear hi)
                refine hK.out _ _ ⟨(kC BK127.out 0).trans rfl,(kC BK127.out 1).trans rfl,(kC BK127.out 2).trans rfl,(kC BK127.out 3).trans rfl,(kC BK127.out 4).trans rfl⟩ (fun hHeld => ?_)
                clear hK K
                refine norm_ (a':=?_) ?_ ?_
                rotate_left
                ·show Act.put _ (some 59) _ = _
                 simp only [Act.put,pS]
                 rfl
                refine pure_ (i:=4) (N:=some 60) (v:=?_) (a':=?_) #[true,true,true,true,true,false,true,true,false,false,false,true,true,false,false,false,false,false] rfl rfl (any_of HT_.out (by kernel_rfl)) (fun _ _ _ h => h) (Or.inl ⟨by rfl,?_⟩) ?_ ?_
                rotate_left
                ·intro w'
                 go_simp
                 with_reducible rfl
                rotate_left
                ·simp only [Act.put,pS]
                 rfl
                refine pure_ (i:=5) (N:=some 61) (v:=?_) (a':=?_) #[true,true,true,true,true,true,true,true,false,false,false,true,true,false,false,false,false,false] rfl rfl (any_of HT_.out (by kernel_rfl)) (fun _ _ _ h => h) (Or.inl ⟨by rfl,?_⟩) ?_ ?_
                rotate_left
                ·intro w'
                 go_simp
                 with_reducible rfl
                rotate_left
                ·simp only [Act.put,pS]
                 rfl
                refine one_ (i:=8) (N:=some 64) #[true,true,true,true,true,true,true,true,true,false,false,true,true,false,false,false,false,false] rfl rfl (one_of HT_.out (by kernel_rfl)) (by decide) (fun K hK => ?_)
                refine goes_ Tryd.func12 (by kernel_rfl) rfl #[.int .i64 a0_3] (by rfl) rfl rfl (by (try simp only [List.map_toArray,List.map_cons,List.map_nil]);first|done|rfl|(simp only [List.length_drop,List.length_take];rfl)) ?_
                with_reducible refine (spec_l5decimal.calls k2 a0_3 t139 _ A50.out).mono ?_
                rintro e w60 ⟨rfl,hb⟩
                refine ⟨_,rfl,?_⟩
                have n0_:=Am (blk_below (g:=gb127) (o:=.cells #[.slice A0_0 l0_0.length c0_0,.slice A0_1 l0_1.length c0_1,.int .i64 a0_2,.int .i64 a0_3,.int .i64 a0_4] 31 (0,0)) (by (with_reducible repeat (first|refine kN ?_ _|refine kD ?_|refine kA ?_ _));exact BK127.out) hb)
                have n1_:=Am (below_step (by repeat (first|(with_reducible first|exact HB.out|apply bA|apply bN|apply bD|refine bS ?_ GE127.out)|exact HB.out)) hb)
                clear BK127
                clear HB
                have BK127:=n0_
                have HB:=n1_
                clear n0_ n1_
                (try clear hb)
                (try clear hb2)
                (try clear hk)
                (try clear hi)
                refine hK.out _ _ ⟨(kC BK127.out 0).trans rfl,(kC BK127.out 1).trans rfl,(kC BK127.out 2).trans rfl,(kC BK127.out 3).trans rfl,(kC BK127.out 4).trans rfl⟩ (fun hHeld => ?_)
                clear hK K
                refine norm_ (a':=?_) ?_ ?_
                rotate_left
                ·show Act.put _ (some 64) _ = _
                 simp only [Act.put,pS]
                 rfl
                refine pure_ (i:=9) (N:=some 65) (v:=?_) (a':=?_) #[true,true,true,true,true,true,true,true,true,true,false,true,true,false,false,false,false,false] rfl rfl (any_of HT_.out (by kernel_rfl)) (fun _ _ _ h => h) (Or.inl ⟨by rfl,?_⟩) ?_ ?_
                rotate_left
                ·intro w'
                 go_simp
                 with_reducible rfl
                rotate_left
                ·simp only [Act.put,pS]
                 rfl
                refine pure_ (i:=10) (N:=some 66) (v:=?_) (a':=?_) #[true,true,true,true,true,true,true,true,true,true,true,true,true,false,false,false,false,false] rfl rfl (any_of HT_.out (by kernel_rfl)) (fun _ _ _ h => h) (Or.inl ⟨by rfl,?_⟩) ?_ ?_
                rotate_left
                ·intro w'
                 go_simp
                 with_reducible rfl
                rotate_left
                ·simp only [Act.put,pS]
                 rfl
                refine one_ (i:=13) (N:=some 69) #[true,true,true,true,true,true,true,true,true,true,true,true,true,true,false,false,false,false] rfl rfl (one_of HT_.out (by kernel_rfl)) (by decide) (fun K hK => ?_)
                refine goes_ Tryd.func12 (by kernel_rfl) rfl #[.int .i64 a0_4] (by rfl) rfl rfl (by (try simp only [List.map_toArray,List.map_cons,List.map_nil]);first|done|rfl|(simp only [List.length_drop,List.length_take];rfl)) ?_
                with_reducible refine (spec_l5decimal.calls k2 a0_4 t140 _ A53.out).mono ?_
                rintro e w61 ⟨rfl,hb⟩
                refine ⟨_,rfl,?_⟩
                have n0_:=Am (blk_below (g:=gb127) (o:=.cells #[.slice A0_0 l0_0.length c0_0,.slice A0_1 l0_1.length c0_1,.int .i64 a0_2,.int .i64 a0_3,.int .i64 a0_4] 31 (0,0)) (by (with_reducible repeat (first|refine kN ?_ _|refine kD ?_|refine kA ?_ _));exact BK127.out) hb)
                have n1_:=Am (below_step (by repeat (first|(with_reducible first|exact HB.out|apply bA|apply bN|apply bD|refine bS ?_ GE127.out)|exact HB.out)) hb)
                clear BK127
                clear HB
                have BK127:=n0_
                have HB:=n1_
                clear n0_ n1_
                (try clear hb)
                (try clear hb2)
                (try clear hk)
                (try clear hi)
                refine hK.out _ _ ⟨(kC BK127.out 0).trans rfl,(kC BK127.out 1).trans rfl,(kC BK127.out 2).trans rfl,(kC BK127.out 3).trans rfl,(kC BK127.out 4).trans rfl⟩ (fun hHeld => ?_)
                clear hK K
                refine norm_ (a':=?_) ?_ ?_
                rotate_left
                ·show Act.put _ (some 69) _ = _
                 simp only [Act.put,pS]
                 rfl
                refine pure_ (i:=14) (N:=some 70) (v:=?_) (a':=?_) #[true,true,true,true,true,true,true,true,true,true,true,true,true,true,true,false,false,false] rfl rfl (any_of HT_.out (by kernel_rfl)) (fun _ _ _ h => h) (Or.inl ⟨by rfl,?_⟩) ?_ ?_
                rotate_left
                ·intro w'
                 go_simp
                 with_reducible rfl
                rotate_left
                ·simp only [Act.put,pS]
                 rfl
                refine pure_ (i:=15) (N:=some 71) (v:=?_) (a':=?_) #[true,true,true,true,true,true,true,true,true,true,true,true,true,true,true,true,false,false] rfl rfl (any_of HT_.out (by kernel_rfl)) (fun _ _ _ h => h) (Or.inl ⟨by rfl,?_⟩) ?_ ?_
                rotate_left
                ·intro w'
                 go_simp
                 with_reducible rfl
                rotate_left
                ·simp only [Act.put,pS]
                 rfl
                refine pure_ (i:=16) (N:=some 72) (v:=?_) (a':=?_) #[true,true,true,true,true,true,true,true,true,true,true,true,true,true,true,true,true,false] rfl rfl (any_of HT_.out (by kernel_rfl)) (fun _ _ _ h => h) (Or.inl ⟨by rfl,?_⟩) ?_ ?_
                rotate_left
                ·intro w'
                 go_simp
                 with_reducible rfl
                rotate_left
                ·simp only [Act.put,pS]
                 rfl
                refine pure_ (i:=17) (N:=some 3) (v:=?_) (a':=?_) #[true,true,true,true,true,true,true,true,true,true,true,true,true,true,true,true,true,true] rfl rfl (any_of HT_.out (by kernel_rfl)) (fun _ _ _ h => h) (Or.inl ⟨by rfl,?_⟩) ?_ ?_
                rotate_left
                ·intro w'
                 go_simp
                 with_reducible rfl
                rotate_left
                ·simp only [Act.put,pS]
                 rfl
                refine done_ (done_of HT_.out (by kernel_rfl)) ?_
                try go_wp2
                go_ret
                exact ⟨by first|rfl|(simp [errW_none,errW_some] <;> rfl)|(simp [*,errW_none,errW_some] <;> rfl),by repeat (first|(with_reducible first|exact HB.out|apply bA|apply bN|apply bD|refine bS ?_ GE127.out)|exact HB.out)⟩
               ·rw [if_neg c57] at H
                have c57b0 : decide (3000 < ((x3_2 ++ (((((((⟨#[116,114,97,105,110,32]⟩ : ByteArray) ++ t138) ++ (⟨#[32,101,110,100,32]⟩ : ByteArray)) ++ t139) ++ (⟨#[32,100,101,108,97,121,32]⟩ : ByteArray)) ++ t140) ++ (⟨#[10]⟩ : ByteArray))).size : Int)) = false:=decide_eq_false c57
                have c57b3 : decide (3000 < (x3_2.size : Int) + (6 + (t138.size : Int) + 5 + (t139.size : Int) + 7 + (t140.size : Int) + 1)) = false:=decide_eq_false (by have h_:=c57;simp only [ByteArray.size_append] at h_;have h2_ : ¬ ((x3_2.size + (6 + t138.size + 5 + t139.size + 7 + t140.size + 1) : Nat) : Int) > 3000:=h_;omega)
                have c57b1 : decide (3000 < (x3_2 ++ (((((((⟨#[116,114,97,105,110,32]⟩ : ByteArray) ++ t138) ++ (⟨#[32,101,110,100,32]⟩ : ByteArray)) ++ t139) ++ (⟨#[32,100,101,108,97,121,32]⟩ : ByteArray)) ++ t140) ++ (⟨#[10]⟩ : ByteArray))).size) = false:=decide_eq_false (by omega)
                clear c57
                obtain rfl:=Option.some.inj H
                try go_wp2
                have n0_:=Am (kD BK127.out)
                have n1_:=Am (bD HB.out)
                clear BK127
                clear HB
                have BK127:=n0_
                have HB:=n1_
                clear n0_ n1_
                refine start_ (n:=18) (S:=fun w' => w'.cell? ⟨gb127,0,none⟩ = some (.slice A0_0 l0_0.length c0_0)∧w'.cell? ⟨gb127,1,none⟩ = some (.slice A0_1 l0_1.length c0_1)∧w'.cell? ⟨gb127,2,none⟩ = some (.int .i64 a0_2)∧w'.cell? ⟨gb127,3,none⟩ = some (.int .i64 a0_3)∧w'.cell? ⟨gb127,4,none⟩ = some (.int .i64 a0_4)) (ds:=[]) #[false,false,false,false,false,false,false,false,false,false,false,false,false,false,false,false,false,false] (by kernel_rfl) rfl rfl ⟨(kC BK127.out 0).trans rfl,(kC BK127.out 1).trans rfl,(kC BK127.out 2).trans rfl,(kC BK127.out 3).trans rfl,(kC BK127.out 4).trans rfl⟩ (fun hHeld => ?_);refine with_tabW spec_WriteProfile.tab14 spec_WriteProfile.bits14 (fun HT_ HW_ => ?_)
                generalize wr.drew = w62 at BK127 HB hHeld ⊢
                refine pure_ (i:=0) (N:=some 56) (v:=?_) (a':=?_) #[true,false,false,false,false,false,false,false,false,false,false,false,false,false,false,false,false,false] rfl rfl (any_of HT_.out (by kernel_rfl)) (fun _ _ _ h => h) (Or.inl ⟨by rfl,?_⟩) ?_ ?_
                rotate_left
                ·intro w'
                 go_simp
                 with_reducible rfl
                rotate_left
                ·simp only [Act.put,pS]
                 rfl
                refine pure_ (i:=1) (N:=some 57) (v:=?_) (a':=?_) #[true,true,false,false,false,false,false,false,false,false,false,false,false,false,false,false,false,false] rfl rfl (any_of HT_.out (by kernel_rfl)) (fun _ _ _ h => h) (Or.inl ⟨by rfl,?_⟩) ?_ ?_
                rotate_left
                ·intro w'
                 go_simp
                 with_reducible rfl
                rotate_left
                ·simp only [Act.put,pS]
                 rfl
                refine pure_ (i:=6) (N:=some 62) (v:=?_) (a':=?_) #[true,true,false,false,false,false,true,false,false,false,false,false,false,false,false,false,false,false] rfl rfl (any_of HT_.out (by kernel_rfl)) (fun _ _ _ h => h) (Or.inl ⟨by rfl,?_⟩) ?_ ?_
                rotate_left
                ·intro w'
                 go_simp
                 with_reducible rfl
                rotate_left
                ·simp only [Act.put,pS]
                 rfl
                refine pure_ (i:=11) (N:=some 67) (v:=?_) (a':=?_) #[true,true,false,false,false,false,true,false,false,false,false,true,false,false,false,false,false,false] rfl rfl (any_of HT_.out (by kernel_rfl)) (fun _ _ _ h => h) (Or.inl ⟨by rfl,?_⟩) ?_ ?_
                rotate_left
                ·intro w'
                 go_simp
                 with_reducible rfl
                rotate_left
                ·simp only [Act.put,pS]
                 rfl
                refine take_ (i:=2) (N:=some 58) (v:=?_) (a':=?_) #[true,true,true,false,false,false,true,false,false,false,false,true,false,false,false,false,false,false] rfl rfl (take_ofW HT_.out HW_.out (by kernel_rfl)) (fun _ _ _ h => h) (Or.inl ⟨by rfl,?_⟩) hHeld ?_ ?_
                rotate_left
                ·rintro w' ⟨s0,s1,s2,s3,s4⟩
                 go_simp
                 with_reducible rfl
                rotate_left
                ·simp only [Act.put,pS]
                 rfl
                refine take_ (i:=7) (N:=some 63) (v:=?_) (a':=?_) #[true,true,true,false,false,false,true,true,false,false,false,true,false,false,false,false,false,false] rfl rfl (take_ofW HT_.out HW_.out (by kernel_rfl)) (fun _ _ _ h => h) (Or.inl ⟨by rfl,?_⟩) hHeld ?_ ?_
                rotate_left
                ·rintro w' ⟨s0,s1,s2,s3,s4⟩
                 go_simp
                 with_reducible rfl
                rotate_left
                ·simp only [Act.put,pS]
                 rfl
                refine take_ (i:=12) (N:=some 68) (v:=?_) (a':=?_) #[true,true,true,false,false,false,true,true,false,false,false,true,true,false,false,false,false,false] rfl rfl (take_ofW HT_.out HW_.out (by kernel_rfl)) (fun _ _ _ h => h) (Or.inl ⟨by rfl,?_⟩) hHeld ?_ ?_
                rotate_left
                ·rintro w' ⟨s0,s1,s2,s3,s4⟩
                 go_simp
                 with_reducible rfl
                rotate_left
                ·simp only [Act.put,pS]
                 rfl
                refine one_ (i:=3) (N:=some 59) #[true,true,true,true,false,false,true,true,false,false,false,true,true,false,false,false,false,false] rfl rfl (one_of HT_.out (by kernel_rfl)) (by decide) (fun K hK => ?_)
                refine goes_ Tryd.func12 (by kernel_rfl) rfl #[.int .i64 a0_2] (by rfl) rfl rfl (by (try simp only [List.map_toArray,List.map_cons,List.map_nil]);first|done|rfl|(simp only [List.length_drop,List.length_take];rfl)) ?_
                with_reducible refine (spec_l5decimal.calls k2 a0_2 t138 _ A47.out).mono ?_
                rintro e w63 ⟨rfl,hb⟩
                refine ⟨_,rfl,?_⟩
                have n0_:=Am (blk_below (g:=gb127) (o:=.cells #[.slice A0_0 l0_0.length c0_0,.slice A0_1 l0_1.length c0_1,.int .i64 a0_2,.int .i64 a0_3,.int .i64 a0_4] 31 (0,0)) (by (with_reducible repeat (first|refine kN ?_ _|refine kD ?_|refine kA ?_ _));exact BK127.out) hb)
                have n1_:=Am (below_step (by repeat (first|(with_reducible first|exact HB.out|apply bA|apply bN|apply bD|refine bS ?_ GE127.out)|exact HB.out)) hb)
                clear BK127
                clear HB
                have BK127:=n0_
                have HB:=n1_
                clear n0_ n1_
                (try clear hb)
                (try clear hb2)
                (try clear hk)
                (try clear hi)
                refine hK.out _ _ ⟨(kC BK127.out 0).trans rfl,(kC BK127.out 1).trans rfl,(kC BK127.out 2).trans rfl,(kC BK127.out 3).trans rfl,(kC BK127.out 4).trans rfl⟩ (fun hHeld => ?_)
                clear hK K
                refine norm_ (a':=?_) ?_ ?_
                rotate_left
                ·show Act.put _ (some 59) _ = _
                 simp only [Act.put,pS]
                 rfl
                refine pure_ (i:=4) (N:=some 60) (v:=?_) (a':=?_) #[true,true,true,true,true,false,true,true,false,false,false,true,true,false,false,false,false,false] rfl rfl (any_of HT_.out (by kernel_rfl)) (fun _ _ _ h => h) (Or.inl ⟨by rfl,?_⟩) ?_ ?_
                rotate_left
                ·intro w'
                 go_simp
                 with_reducible rfl
                rotate_left
                ·simp only [Act.put,pS]
                 rfl
                refine pure_ (i:=5) (N:=some 61) (v:=?_) (a':=?_) #[true,true,true,true,true,true,true,true,false,false,false,true,true,false,false,false,false,false] rfl rfl (any_of HT_.out (by kernel_rfl)) (fun _ _ _ h => h) (Or.inl ⟨by rfl,?_⟩) ?_ ?_
                rotate_left
                ·intro w'
                 go_simp
                 with_reducible rfl
                rotate_left
                ·simp only [Act.put,pS]
                 rfl
                refine one_ (i:=8) (N:=some 64) #[true,true,true,true,true,true,true,true,true,false,false,true,true,false,false,false,false,false] rfl rfl (one_of HT_.out (by kernel_rfl)) (by decide) (fun K hK => ?_)
                refine goes_ Tryd.func12 (by kernel_rfl) rfl #[.int .i64 a0_3] (by rfl) rfl rfl (by (try simp only [List.map_toArray,List.map_cons,List.map_nil]);first|done|rfl|(simp only [List.length_drop,List.length_take];rfl)) ?_
                with_reducible refine (spec_l5decimal.calls k2 a0_3 t139 _ A50.out).mono ?_
                rintro e w64 ⟨rfl,hb⟩
                refine ⟨_,rfl,?_⟩
                have n0_:=Am (blk_below (g:=gb127) (o:=.cells #[.slice A0_0 l0_0.length c0_0,.slice A0_1 l0_1.length c0_1,.int .i64 a0_2,.int .i64 a0_3,.int .i64 a0_4] 31 (0,0)) (by (with_reducible repeat (first|refine kN ?_ _|refine kD ?_|refine kA ?_ _));exact BK127.out) hb)
                have n1_:=Am (below_step (by repeat (first|(with_reducible first|exact HB.out|apply bA|apply bN|apply bD|refine bS ?_ GE127.out)|exact HB.out)) hb)
                clear BK127
                clear HB
                have BK127:=n0_
                have HB:=n1_
                clear n0_ n1_
                (try clear hb)
                (try clear hb2)
                (try clear hk)
                (try clear hi)
                refine hK.out _ _ ⟨(kC BK127.out 0).trans rfl,(kC BK127.out 1).trans rfl,(kC BK127.out 2).trans rfl,(kC BK127.out 3).trans rfl,(kC BK127.out 4).trans rfl⟩ (fun hHeld => ?_)
                clear hK K
                refine norm_ (a':=?_) ?_ ?_
                rotate_left
                ·show Act.put _ (some 64) _ = _
                 simp only [Act.put,pS]
                 rfl
                refine pure_ (i:=9) (N:=some 65) (v:=?_) (a':=?_) #[true,true,true,true,true,true,true,true,true,true,false,true,true,false,false,false,false,false] rfl rfl (any_of HT_.out (by kernel_rfl)) (fun _ _ _ h => h) (Or.inl ⟨by rfl,?_⟩) ?_ ?_
                rotate_left
                ·intro w'
                 go_simp
                 with_reducible rfl
                rotate_left
                ·simp only [Act.put,pS]
                 rfl
                refine pure_ (i:=10) (N:=some 66) (v:=?_) (a':=?_) #[true,true,true,true,true,true,true,true,true,true,true,true,true,false,false,false,false,false] rfl rfl (any_of HT_.out (by kernel_rfl)) (fun _ _ _ h => h) (Or.inl ⟨by rfl,?_⟩) ?_ ?_
                rotate_left
                ·intro w'
                 go_simp
                 with_reducible rfl
                rotate_left
                ·simp only [Act.put,pS]
                 rfl
                refine one_ (i:=13) (N:=some 69) #[true,true,true,true,true,true,true,true,true,true,true,true,true,true,false,false,false,false] rfl rfl (one_of HT_.out (by kernel_rfl)) (by decide) (fun K hK => ?_)
                refine goes_ Tryd.func12 (by kernel_rfl) rfl #[.int .i64 a0_4] (by rfl) rfl rfl (by (try simp only [List.map_toArray,List.map_cons,List.map_nil]);first|done|rfl|(simp only [List.length_drop,List.length_take];rfl)) ?_
                with_reducible refine (spec_l5decimal.calls k2 a0_4 t140 _ A53.out).mono ?_
                rintro e w65 ⟨rfl,hb⟩
                refine ⟨_,rfl,?_⟩
                have n0_:=Am (blk_below (g:=gb127) (o:=.cells #[.slice A0_0 l0_0.length c0_0,.slice A0_1 l0_1.length c0_1,.int .i64 a0_2,.int .i64 a0_3,.int .i64 a0_4] 31 (0,0)) (by (with_reducible repeat (first|refine kN ?_ _|refine kD ?_|refine kA ?_ _));exact BK127.out) hb)
                have n1_:=Am (below_step (by repeat (first|(with_reducible first|exact HB.out|apply bA|apply bN|apply bD|refine bS ?_ GE127.out)|exact HB.out)) hb)
                clear BK127
                clear HB
                have BK127:=n0_
                have HB:=n1_
                clear n0_ n1_
                (try clear hb)
                (try clear hb2)
                (try clear hk)
                (try clear hi)
                refine hK.out _ _ ⟨(kC BK127.out 0).trans rfl,(kC BK127.out 1).trans rfl,(kC BK127.out 2).trans rfl,(kC BK127.out 3).trans rfl,(kC BK127.out 4).trans rfl⟩ (fun hHeld => ?_)
                clear hK K
                refine norm_ (a':=?_) ?_ ?_
                rotate_left
                ·show Act.put _ (some 69) _ = _
                 simp only [Act.put,pS]
                 rfl
                refine pure_ (i:=14) (N:=some 70) (v:=?_) (a':=?_) #[true,true,true,true,true,true,true,true,true,true,true,true,true,true,true,false,false,false] rfl rfl (any_of HT_.out (by kernel_rfl)) (fun _ _ _ h => h) (Or.inl ⟨by rfl,?_⟩) ?_ ?_
                rotate_left
                ·intro w'
                 go_simp
                 with_reducible rfl
                rotate_left
                ·simp only [Act.put,pS]
                 rfl
                refine pure_ (i:=15) (N:=some 71) (v:=?_) (a':=?_) #[true,true,true,true,true,true,true,true,true,true,true,true,true,true,true,true,false,false] rfl rfl (any_of HT_.out (by kernel_rfl)) (fun _ _ _ h => h) (Or.inl ⟨by rfl,?_⟩) ?_ ?_
                rotate_left
                ·intro w'
                 go_simp
                 with_reducible rfl
                rotate_left
                ·simp only [Act.put,pS]
                 rfl
                refine pure_ (i:=16) (N:=some 72) (v:=?_) (a':=?_) #[true,true,true,true,true,true,true,true,true,true,true,true,true,true,true,true,true,false] rfl rfl (any_of HT_.out (by kernel_rfl)) (fun _ _ _ h => h) (Or.inl ⟨by rfl,?_⟩) ?_ ?_
                rotate_left
                ·intro w'
                 go_simp
                 with_reducible rfl
                rotate_left
                ·simp only [Act.put,pS]
                 rfl
                refine pure_ (i:=17) (N:=some 3) (v:=?_) (a':=?_) #[true,true,true,true,true,true,true,true,true,true,true,true,true,true,true,true,true,true] rfl rfl (any_of HT_.out (by kernel_rfl)) (fun _ _ _ h => h) (Or.inl ⟨by rfl,?_⟩) ?_ ?_
                rotate_left
                ·intro w'
                 go_simp
                 with_reducible rfl
                rotate_left
                ·simp only [Act.put,pS]
                 rfl
                refine done_ (done_of HT_.out (by kernel_rfl)) ?_
                try go_wp2
                go_ret
                exact ⟨by first|rfl|(simp [errW_none,errW_some] <;> rfl)|(simp [*,errW_none,errW_some] <;> rfl),by repeat (first|(with_reducible first|exact HB.out|apply bA|apply bN|apply bD|refine bS ?_ GE127.out)|exact HB.out)⟩
              ·rw [if_neg c56] at H
               exact absurd H (by simp)
             ·rw [if_neg c55] at H
              exact absurd H (by simp)
            ·rw [if_neg c54] at H
             exact absurd H (by simp)
           ·rw [if_neg c52] at H
            exact absurd H (by simp)
          ·rw [if_neg c51] at H
           exact absurd H (by simp)
         ·rw [if_neg c49] at H
          exact absurd H (by simp)
        ·rw [if_neg c48] at H
         exact absurd H (by simp)
 ·rw [if_neg c3] at H
  have c3b0 : (t128 == 0) = false:=beq_eq_false_iff_ne.mpr c3
  have c3b1 : (t128 != 0) = true:=bne_iff_ne.mpr c3
  obtain rfl:=Option.some.inj H
  go_enter Tryd.func5,Tryd.ntmps5
  go_wp2_with (first|((with_reducible refine gate_dst (N:=1) rfl ?_);refine box_event ?hg (N:=1) ?hd (cs:=#[.slice A0_0 l0_0.length c0_0,.slice A0_1 l0_1.length c0_1,.int .i64 a0_2,.int .i64 a0_3,.int .i64 a0_4]) (t:=31) ?hr ?_;(case hd => rfl);(case hg => rfl);(case hr => first|(go_simp;done)|(go_simp;rfl));intro gb127 hg w66 hbox hb;have n0_:=Am (below_step (by repeat (first|(with_reducible first|exact HB.out|apply bA|apply bN|apply bD)|exact HB.out)) hb);have n1_:=Am (hbox);have n2_:=Am ((by rw [hg];exact (below_size (by repeat (first|(with_reducible first|exact HB.out|apply bA|apply bN|apply bD)|exact HB.out))) : w.heap.size ≤ gb127));have n3_:=Am ((by rw [hg];exact (below_size (by repeat (first|(with_reducible first|exact HB.out|apply bA|apply bN|apply bD)|exact HB.out))) : w.heap.size ≤ gb127));clear HB;have HB:=n0_;have BK127:=n1_;have GW127:=n2_;have GE127:=n3_;clear n0_ n1_ n2_ n3_;clear hb hbox hg;have hcz67_0 : w66.cell? ⟨gb127,0,none⟩ = some (.slice A0_0 l0_0.length c0_0):=(kC BK127.out 0).trans rfl;have hcz67_1 : w66.cell? ⟨gb127,1,none⟩ = some (.slice A0_1 l0_1.length c0_1):=(kC BK127.out 1).trans rfl;have hcz67_2 : w66.cell? ⟨gb127,2,none⟩ = some (.int .i64 a0_2):=(kC BK127.out 2).trans rfl;have hcz67_3 : w66.cell? ⟨gb127,3,none⟩ = some (.int .i64 a0_3):=(kC BK127.out 3).trans rfl;have hcz67_4 : w66.cell? ⟨gb127,4,none⟩ = some (.int .i64 a0_4):=(kC BK127.out 4).trans rfl;have hfz67_0:=kF BK127.out 0;have hfz67_1:=kF BK127.out 1;have hfz67_2:=kF BK127.out 2;have hfz67_3:=kF BK127.out 3;have hfz67_4:=kF BK127.out 4)|((with_reducible refine gate_callee (f:=11) rfl ?_);refine goesL_ (some 9) rfl rfl Tryd.func11 (by kernel_rfl) rfl #[.agg #[.slice A0_0 l0_0.length c0_0,.slice A0_1 l0_1.length c0_1,.int .i64 a0_2,.int .i64 a0_3,.int .i64 a0_4]] rfl (by (try simp only [List.map_toArray,List.map_cons,List.map_nil]);first|done|rfl|(simp only [List.length_drop,List.length_take];rfl)) ?_;(with_reducible refine (spec_ProfileOk.calls k _ _ l0_0 _ _ l0_1 a0_2 a0_3 a0_4 t128 _ ?side1 ?side2 ?side3 ?side4 A2.out).mono ?_);(case side1 => repeat (first|exact (Kd.C_below HR0_0.out HB.out)|(with_reducible refine Kd.C_alloc ?_ _)|(with_reducible refine Kd.C_drewN ?_ _)|(with_reducible refine Kd.C_drew ?_)));(case side2 => exact HC0_0.out);(case side3 => repeat (first|exact (Kd.C_below HR0_1.out HB.out)|(with_reducible refine Kd.C_alloc ?_ _)|(with_reducible refine Kd.C_drewN ?_ _)|(with_reducible refine Kd.C_drew ?_)));(case side4 => exact HC0_1.out);rintro e w68 ⟨rfl,hb⟩;refine ⟨_,rfl,?_⟩;have n0_:=Am (blk_below (g:=gb127) (o:=.cells #[.slice A0_0 l0_0.length c0_0,.slice A0_1 l0_1.length c0_1,.int .i64 a0_2,.int .i64 a0_3,.int .i64 a0_4] 31 (0,0)) (by (with_reducible repeat (first|refine kN ?_ _|refine kD ?_|refine kA ?_ _));exact BK127.out) hb);have n1_:=Am (below_step (by repeat (first|(with_reducible first|exact HB.out|apply bA|apply bN|apply bD|refine bS ?_ GE127.out)|exact HB.out)) hb);clear BK127;clear HB;have BK127:=n0_;have HB:=n1_;clear n0_ n1_;(try clear hb);(try clear hb2);(try clear hk);(try clear hi)))
  go_ret
  exact ⟨by first|rfl|(simp [errW_none,errW_some] <;> rfl)|(simp [*,errW_none,errW_some] <;> rfl),by repeat (first|(with_reducible first|exact HB.out|apply bA|apply bN|apply bD|refine bS ?_ GE127.out)|exact HB.out)⟩

end Go.Proofs.YtgakkndbcilclaaDoor.PA
