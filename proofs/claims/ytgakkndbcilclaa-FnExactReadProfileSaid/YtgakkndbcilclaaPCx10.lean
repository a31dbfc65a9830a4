-- Written by a program of this session (wip/print/myprint.py) over the kit's print, with contracts of its own; not a text of print.sh's.
import Derived.Test.YtgakkndbcilclaaPCx0
import Derived.Test.YtgakkndbcilclaaPCx3
import Derived.Test.YtgakkndbcilclaaPCx8
import Derived.Test.YtgakkndbcilclaaPCx9
namespace Go.Proofs.Ytgakkndbcilclaa.PC
open Go.RowKit Go.Proofs.YtgakkndbcilclaaW.PrintWords Go.Proofs.YtgakkndbcilclaaW.PrintLast Go.Proofs.YtgakkndbcilclaaW.PrintMore
attribute [local go_sem] max2_int min2_int max_two min_two   -- for this text's walks alone
set_option linter.unusedVariables false
set_option linter.unusedSimpArgs false

/-! ### impl_ReadProfile: function 34 -/
mutual
def impl_ReadProfile.l0 : Nat → ByteArray → Int → List (S71) → List (S75) → Int → Int → Int → Option (Int × Int × (List (S71)) × (List (S75)) × Int × Int × Int)
 | 0,_,_,_,_,_,_,_ => none
 | k + 1,x0,x4,x221000,x221001,x221002,x221003,x221004 => (some (([(⟨#[116,114,97,99,107,32,35,32,98,114,97,107,101,32,35,10]⟩ : ByteArray)] : List ByteArray) : List ByteArray)).bind fun y221 => (if (x221001.length : Int) > 0 then (impl_ReadProfile.j1 k x0 x4 (([(⟨#[108,105,109,105,116,32,35,32,35,32,35,10]⟩ : ByteArray),(⟨#[116,114,97,105,110,32,35,32,101,110,100,32,35,32,100,101,108,97,121,32,35,10]⟩ : ByteArray)] : List ByteArray)) x221000 x221001 x221002 x221003 x221004) else (if (x221000.length : Int) > 0 then ((some (([(⟨#[108,105,109,105,116,32,35,32,35,32,35,10]⟩ : ByteArray),(⟨#[116,114,97,105,110,32,35,32,101,110,100,32,35,32,100,101,108,97,121,32,35,10]⟩ : ByteArray)] : List ByteArray) : List ByteArray)).bind fun y227 => (if y221.length + y227.length < 8796093022208 then (impl_ReadProfile.j1 k x0 x4 (y221 ++ y227) x221000 x221001 x221002 x221003 x221004) else (none))) else (impl_ReadProfile.j1 k x0 x4 y221 x221000 x221001 x221002 x221003 x221004)))
def impl_ReadProfile.j1 : Nat → ByteArray → Int → List ByteArray → List (S71) → List (S75) → Int → Int → Int → Option (Int × Int × (List (S71)) × (List (S75)) × Int × Int × Int)
 | 0,_,_,_,_,_,_,_,_ => none
 | k + 1,x0,x4,x5,x221000,x221001,x221002,x221003,x221004 => impl_ReadProfile.l1 k x0 x4 x4 false x5 (x5.length : Int) 0 x221000 x221001 x221002 x221003 x221004
def impl_ReadProfile.l1 : Nat → ByteArray → Int → Int → Bool → List ByteArray → Int → Int → List (S71) → List (S75) → Int → Int → Int → Option (Int × Int × (List (S71)) × (List (S75)) × Int × Int × Int)
 | 0,_,_,_,_,_,_,_,_,_,_,_,_ => none
 | k + 1,x0,x4,x6,x7,x34,x35,x36,x221000,x221001,x221002,x221003,x221004 => if x36 < x35 then (if 0 ≤ x36 then (if x36 < (x34.length : Int) then ((impl_match.f k x0 x4 (rdOf ByteArray.empty x34 x36)).bind fun bt234 => (if bt234.2.2 = true then (if 0 ≤ 3 then (if 3 ≤ ((rdOf ByteArray.empty x34 x36).size : Int) then (if ((rdOf ByteArray.empty x34 x36).extract 0 3).toList = ([108,105,109] : List UInt8) then (if 0 < (bt234.1.length : Int) then (if 1 < (bt234.1.length : Int) then (if 2 < (bt234.1.length : Int) then (if x221001.length < 5864062014805 then (impl_ReadProfile.l0 k x0 (mx x6 bt234.2.1) x221000 (x221001 ++ [(⟨rd bt234.1 0,rd bt234.1 1,rd bt234.1 2⟩ : S75)]) x221002 x221003 x221004) else (none)) else (none)) else (none)) else (none)) else (if 3 < ((rdOf ByteArray.empty x34 x36).size : Int) then (if (bt (rdOf ByteArray.empty x34 x36) 3) = 99 then (if 0 < (bt234.1.length : Int) then (if 1 < (bt234.1.length : Int) then (if x221000.length < 8796093022208 then (impl_ReadProfile.l0 k x0 (mx x6 bt234.2.1) (x221000 ++ [(⟨rd bt234.1 0,rd bt234.1 1⟩ : S71)]) x221001 x221002 x221003 x221004) else (none)) else (none)) else (none)) else (if 0 < (bt234.1.length : Int) then (if 1 < (bt234.1.length : Int) then (if 2 < (bt234.1.length : Int) then (if bt234.2.1 < (x0.size : Int) then (some (1,bt234.2.1,([] : List (S71)),([] : List (S75)),0,0,0)) else ((impl_ProfileOk.f x221000 x221001 (rd bt234.1 0) (rd bt234.1 1) (rd bt234.1 2)).bind fun t253 => (if t253 = 0 then (some (0,0,x221000,x221001,rd bt234.1 0,rd bt234.1 1,rd bt234.1 2)) else (some (wrap64 (1 + t253),0,([] : List (S71)),([] : List (S75)),0,0,0))))) else (none)) else (none)) else (none))) else (none))) else (none)) else (none)) else (impl_ReadProfile.l1 k x0 x4 (mx x6 bt234.2.1) x7 x34 x35 (wrap64 (x36 + 1)) x221000 x221001 x221002 x221003 x221004))) else (none)) else (none)) else (if x7 = true then (impl_ReadProfile.l0 k x0 x6 x221000 x221001 x221002 x221003 x221004) else (some (1,x6,([] : List (S71)),([] : List (S75)),0,0,0)))
end
def impl_ReadProfile.f (k : Nat) (a0 : ByteArray) : Option (Int × Int × (List (S71)) × (List (S75)) × Int × Int × Int):=if (a0.size : Int) > 3000 then (some (1,3000,([] : List (S71)),([] : List (S75)),0,0,0)) else (impl_ReadProfile.l0 k a0 0 ([] : List (S71)) ([] : List (S75)) 0 0 0)
theorem impl_ReadProfile.mono_l : ∀ k,(∀ y0 y1 y2 y3 y4 y5 y6,LeO (impl_ReadProfile.l0 k y0 y1 y2 y3 y4 y5 y6) (impl_ReadProfile.l0 (k + 1) y0 y1 y2 y3 y4 y5 y6))∧(∀ y0 y1 y2 y3 y4 y5 y6 y7,LeO (impl_ReadProfile.j1 k y0 y1 y2 y3 y4 y5 y6 y7) (impl_ReadProfile.j1 (k + 1) y0 y1 y2 y3 y4 y5 y6 y7))∧(∀ y0 y1 y2 y3 y4 y5 y6 y7 y8 y9 y10 y11,LeO (impl_ReadProfile.l1 k y0 y1 y2 y3 y4 y5 y6 y7 y8 y9 y10 y11) (impl_ReadProfile.l1 (k + 1) y0 y1 y2 y3 y4 y5 y6 y7 y8 y9 y10 y11))
 | 0 => ⟨fun _ _ _ _ _ _ _ r h => by simp [impl_ReadProfile.l0] at h,fun _ _ _ _ _ _ _ _ r h => by simp [impl_ReadProfile.j1] at h,fun _ _ _ _ _ _ _ _ _ _ _ _ r h => by simp [impl_ReadProfile.l1] at h⟩
 | k + 1 => by
  obtain ⟨ih0,ih1,ih2⟩:=impl_ReadProfile.mono_l k
  refine ⟨?_,?_,?_⟩
  ·intro y0 y1 y2 y3 y4 y5 y6
   unfold impl_ReadProfile.l0
   repeat' first
   | (with_reducible exact ih0 _ _ _ _ _ _ _)
   | (with_reducible exact ih1 _ _ _ _ _ _ _ _)
   | (with_reducible exact ih2 _ _ _ _ _ _ _ _ _ _ _ _)
   | (with_reducible exact impl_match.mono _ _ _ _)
   | (with_reducible exact LeO.refl _)
   | (with_reducible exact LeO.none _)
   | (with_reducible refine LeO.ite ?_ ?_)
   | (with_reducible refine LeO.bind ?_ (fun _ => ?_))
   | exact ih0 _ _ _ _ _ _ _
   | exact ih1 _ _ _ _ _ _ _ _
   | exact ih2 _ _ _ _ _ _ _ _ _ _ _ _
   | exact impl_match.mono _ _ _ _
   | exact LeO.none _
   | refine LeO.ite ?_ ?_
   | refine LeO.bind ?_ (fun _ => ?_)
  ·intro y0 y1 y2 y3 y4 y5 y6 y7
   unfold impl_ReadProfile.j1
   repeat' first
   | (with_reducible exact ih0 _ _ _ _ _ _ _)
   | (with_reducible exact ih1 _ _ _ _ _ _ _ _)
   | (with_reducible exact ih2 _ _ _ _ _ _ _ _ _ _ _ _)
   | (with_reducible exact impl_match.mono _ _ _ _)
   | (with_reducible exact LeO.refl _)
   | (with_reducible exact LeO.none _)
   | (with_reducible refine LeO.ite ?_ ?_)
   | (with_reducible refine LeO.bind ?_ (fun _ => ?_))
   | exact ih0 _ _ _ _ _ _ _
   | exact ih1 _ _ _ _ _ _ _ _
   | exact ih2 _ _ _ _ _ _ _ _ _ _ _ _
   | exact impl_match.mono _ _ _ _
   | exact LeO.none _
   | refine LeO.ite ?_ ?_
   | refine LeO.bind ?_ (fun _ => ?_)
  ·intro y0 y1 y2 y3 y4 y5 y6 y7 y8 y9 y10 y11
   unfold impl_ReadProfile.l1
   repeat' first
   | (with_reducible exact ih0 _ _ _ _ _ _ _)
   | (with_reducible exact ih1 _ _ _ _ _ _ _ _)
   | (with_reducible exact ih2 _ _ _ _ _ _ _ _ _ _ _ _)
   | (with_reducible exact impl_match.mono _ _ _ _)
   | (with_reducible exact LeO.refl _)
   | (with_reducible exact LeO.none _)
   | (with_reducible refine LeO.ite ?_ ?_)
   | (with_reducible refine LeO.bind ?_ (fun _ => ?_))
   | exact ih0 _ _ _ _ _ _ _
   | exact ih1 _ _ _ _ _ _ _ _
   | exact ih2 _ _ _ _ _ _ _ _ _ _ _ _
   | exact impl_match.mono _ _ _ _
   | exact LeO.none _
   | refine LeO.ite ?_ ?_
   | refine LeO.bind ?_ (fun _ => ?_)
theorem impl_ReadProfile.mono : ∀ a0 k,LeO (impl_ReadProfile.f k a0) (impl_ReadProfile.f (k + 1) a0):=by
 intro a0 k
 obtain ⟨ih0,ih1,ih2⟩:=impl_ReadProfile.mono_l k
 unfold impl_ReadProfile.f
 repeat' first
   | (with_reducible exact ih0 _ _ _ _ _ _ _)
   | (with_reducible exact ih1 _ _ _ _ _ _ _ _)
   | (with_reducible exact ih2 _ _ _ _ _ _ _ _ _ _ _ _)
   | (with_reducible exact impl_match.mono _ _ _ _)
   | (with_reducible exact LeO.refl _)
   | (with_reducible exact LeO.none _)
   | (with_reducible refine LeO.ite ?_ ?_)
   | (with_reducible refine LeO.bind ?_ (fun _ => ?_))
   | exact ih0 _ _ _ _ _ _ _
   | exact ih1 _ _ _ _ _ _ _ _
   | exact ih2 _ _ _ _ _ _ _ _ _ _ _ _
   | exact impl_match.mono _ _ _ _
   | exact LeO.none _
   | refine LeO.ite ?_ ?_
   | refine LeO.bind ?_ (fun _ => ?_)
def impl_ReadProfile.T20 : Bool × List (List Nat × List Nat):=(true,[([],[]),([0],[0]),([],[]),([2],[2]),([3],[3]),([],[]),([5],[5]),([6],[6]),([4,7],[4,7]),([8],[8]),([1,9],[1,9]),([0,1,2,3,4,5,6,7,8,9,10],[]),([11,10,10,0,1,2,3,4,5,6,7,8,9,10],[10,11])])
def impl_ReadProfile.B20 : List Nat:=[0,1,0,4,12,0,32,96,252,508,1023,2047,4095]
theorem impl_ReadProfile.tab20 : rtab .any (opsOf Try.f34 20) = impl_ReadProfile.T20:=by kernel_rfl
theorem impl_ReadProfile.bits20 : waitsOk impl_ReadProfile.T20.2 impl_ReadProfile.B20 = true:=by kernel_rfl
def impl_ReadProfile.T21 : Bool × List (List Nat × List Nat):=(true,[([],[]),([0],[0]),([1],[1]),([],[]),([3],[3]),([4],[4]),([],[]),([6],[6]),([7],[7]),([0,1,2],[]),([9,2,0,1,2],[2,9]),([0,1,2,3,4,5,9,10],[]),([11,5,10,0,1,2,3,4,5,9,10],[5,11]),([0,1,2,3,4,5,6,7,8,9,10,11,12],[]),([13,8,12,0,1,2,3,4,5,6,7,8,9,10,11,12],[8,13])])
def impl_ReadProfile.B21 : List Nat:=[0,1,3,0,8,24,0,64,192,7,519,1599,3647,8191,16383]
theorem impl_ReadProfile.tab21 : rtab .any (opsOf Try.f34 21) = impl_ReadProfile.T21:=by kernel_rfl
theorem impl_ReadProfile.bits21 : waitsOk impl_ReadProfile.T21.2 impl_ReadProfile.B21 = true:=by kernel_rfl
def impl_ReadProfile.T29 : Bool × List (List Nat × List Nat):=(true,[([],[]),([0],[0]),([],[]),([2],[2]),([3],[3]),([],[]),([5],[5]),([6],[6]),([],[]),([8],[8]),([9],[9]),([4,7,10],[4,7,10]),([11],[11]),([1,12],[1,12]),([0,1,2,3,4,5,6,7,8,9,10,11,12,13],[]),([14,13,13,0,1,2,3,4,5,6,7,8,9,10,11,12,13],[13,14])])
def impl_ReadProfile.B29 : List Nat:=[0,1,0,4,12,0,32,96,0,256,768,2044,4092,8191,16383,32767]
theorem impl_ReadProfile.tab29 : rtab .any (opsOf Try.f34 29) = impl_ReadProfile.T29:=by kernel_rfl
theorem impl_ReadProfile.bits29 : waitsOk impl_ReadProfile.T29.2 impl_ReadProfile.B29 = true:=by kernel_rfl
set_option maxHeartbeats 8000000 in
set_option maxRecDepth 100000 in
theorem impl_ReadProfile.calls (k : Nat) (a0 : ByteArray) (r1 : Int) (r2 : Int) (r3 : List (S71)) (r4 : List (S75)) (r5 : Int) (r6 : Int) (r7 : Int) (w : World) (h : impl_ReadProfile.f k a0 = some (r1,r2,r3,r4,r5,r6,r7)) :
  Calls Try.prog 34 #[.string a0] w fun e w' => ∃ v2_ v3_ : Value,e = .returned (.agg #[.int .i64 r1,.int .i64 r2,v2_,v3_,.int .i64 r5,.int .i64 r6,.int .i64 r7])∧Kd.R k71 71 w' w.heap.size (fun _ => True) v2_ r3∧Kd.R k75 75 w' w.heap.size (fun _ => True) v3_ r4∧Below w.heap.size w w':=by
 have hu46:=Try.underlying46
 have hu31:=Try.underlying31
 have hu75:=Try.underlying75
 have hu71:=Try.underlying71
 have HB:=Am (Below.refl w.heap.size w)
 have H : (if (a0.size : Int) > 3000 then (some (1,3000,([] : List (S71)),([] : List (S75)),0,0,0)) else (impl_ReadProfile.l0 k a0 0 ([] : List (S71)) ([] : List (S75)) 0 0 0)) = some (r1,r2,r3,r4,r5,r6,r7):=h
 clear h
 by_cases c2 : (a0.size : Int) > 3000
 ·rw [if_pos c2] at H
  have c2b0 : decide (3000 < (a0.size : Int)) = true:=decide_eq_true c2
  have c2b1 : decide (3000 < a0.size) = true:=decide_eq_true (by omega)
  clear c2
  simp only [Option.some.injEq,Prod.mk.injEq] at H
  obtain ⟨rfl,rfl,rfl,rfl,rfl,rfl,rfl⟩:=H
  go_enter Try.func34,Try.ntmps34
  go_wp2_with (first|((with_reducible refine gate_dst (N:=2) rfl ?_);refine box_event ?hg (N:=2) ?hd (cs:=#[.int .i64 0,.int .i64 0,.slice none 0 0,.slice none 0 0,.int .i64 0,.int .i64 0,.int .i64 0]) (t:=46) ?hr ?_;(case hd => rfl);(case hg => rfl);(case hr => first|(go_simp;done)|(go_simp;rfl));intro gb219 hg w3 hbox hb;have n0_:=Am (below_step (by repeat (first|(with_reducible first|exact HB.out|apply bA|apply bN|apply bD)|exact HB.out)) hb);have n1_:=Am (hbox);have n2_:=Am ((by rw [hg];exact (below_size (by repeat (first|(with_reducible first|exact HB.out|apply bA|apply bN|apply bD)|exact HB.out))) : w.heap.size ≤ gb219));have n3_:=Am ((by rw [hg];exact (below_size (by repeat (first|(with_reducible first|exact HB.out|apply bA|apply bN|apply bD)|exact HB.out))) : w.heap.size ≤ gb219));clear HB;have HB:=n0_;have BK219:=n1_;have GW219:=n2_;have GE219:=n3_;clear n0_ n1_ n2_ n3_;clear hb hbox hg;have hcz4_0 : w3.cell? ⟨gb219,0,none⟩ = some (.int .i64 0):=(kC BK219.out 0).trans rfl;have hcz4_1 : w3.cell? ⟨gb219,1,none⟩ = some (.int .i64 0):=(kC BK219.out 1).trans rfl;have hcz4_2 : w3.cell? ⟨gb219,2,none⟩ = some (.slice none 0 0):=(kC BK219.out 2).trans rfl;have hcz4_3 : w3.cell? ⟨gb219,3,none⟩ = some (.slice none 0 0):=(kC BK219.out 3).trans rfl;have hcz4_4 : w3.cell? ⟨gb219,4,none⟩ = some (.int .i64 0):=(kC BK219.out 4).trans rfl;have hcz4_5 : w3.cell? ⟨gb219,5,none⟩ = some (.int .i64 0):=(kC BK219.out 5).trans rfl;have hcz4_6 : w3.cell? ⟨gb219,6,none⟩ = some (.int .i64 0):=(kC BK219.out 6).trans rfl;have hfz4_0:=kF BK219.out 0;have hfz4_1:=kF BK219.out 1;have hfz4_2:=kF BK219.out 2;have hfz4_3:=kF BK219.out 3;have hfz4_4:=kF BK219.out 4;have hfz4_5:=kF BK219.out 5;have hfz4_6:=kF BK219.out 6))
  refine bodyPost_ret (results_cell_row rfl _ _ gb219 46 #[.int .i64 1,.int .i64 3000,.slice none 0 0,.slice none 0 0,.int .i64 0,.int .i64 0,.int .i64 0] (0,0) _ rfl (by (with_reducible repeat (first|refine kN ?_ _|refine kD ?_|refine kA ?_ _));refine blk_put (cs:=#[.int .i64 1,.int .i64 3000,.slice none 0 0,.slice none 0 0,.int .i64 0,.int .i64 0,.int .i64 0]) ?_ 6 _ rfl;(with_reducible repeat (first|refine kN ?_ _|refine kD ?_|refine kA ?_ _));refine blk_put (cs:=#[.int .i64 1,.int .i64 3000,.slice none 0 0,.slice none 0 0,.int .i64 0,.int .i64 0,.int .i64 0]) ?_ 5 _ rfl;(with_reducible repeat (first|refine kN ?_ _|refine kD ?_|refine kA ?_ _));refine blk_put (cs:=#[.int .i64 1,.int .i64 3000,.slice none 0 0,.slice none 0 0,.int .i64 0,.int .i64 0,.int .i64 0]) ?_ 4 _ rfl;(with_reducible repeat (first|refine kN ?_ _|refine kD ?_|refine kA ?_ _));refine blk_put (cs:=#[.int .i64 1,.int .i64 3000,.slice none 0 0,.slice none 0 0,.int .i64 0,.int .i64 0,.int .i64 0]) ?_ 3 _ rfl;(with_reducible repeat (first|refine kN ?_ _|refine kD ?_|refine kA ?_ _));refine blk_put (cs:=#[.int .i64 1,.int .i64 3000,.slice none 0 0,.slice none 0 0,.int .i64 0,.int .i64 0,.int .i64 0]) ?_ 2 _ rfl;(with_reducible repeat (first|refine kN ?_ _|refine kD ?_|refine kA ?_ _));refine blk_put (cs:=#[.int .i64 1,.int .i64 0,.slice none 0 0,.slice none 0 0,.int .i64 0,.int .i64 0,.int .i64 0]) ?_ 1 _ rfl;(with_reducible repeat (first|refine kN ?_ _|refine kD ?_|refine kA ?_ _));refine blk_put (cs:=#[.int .i64 0,.int .i64 0,.slice none 0 0,.slice none 0 0,.int .i64 0,.int .i64 0,.int .i64 0]) ?_ 0 _ rfl;(with_reducible repeat (first|refine kN ?_ _|refine kD ?_|refine kA ?_ _));exact BK219.out) Try.underlying46 rfl (by kernel_rfl)) rfl ?_
  exact ⟨_,_,by first|rfl|(simp [errW_none,errW_some] <;> rfl)|(simp [*,errW_none,errW_some] <;> rfl),by first|exact Kd.R_nil _ _ _ _ _|exact Kd.N_nil _ _ _ _ _|exact Kd.V_nil _ _ _ _ _|exact Kd.Q_nil _ _ _ _ _|exact Kd.S_nil _ _ _ _ _,by first|exact Kd.R_nil _ _ _ _ _|exact Kd.N_nil _ _ _ _ _|exact Kd.V_nil _ _ _ _ _|exact Kd.Q_nil _ _ _ _ _|exact Kd.S_nil _ _ _ _ _,by repeat (first|(with_reducible first|exact HB.out|apply bA|apply bN|apply bD|refine bS ?_ GE219.out)|exact HB.out)⟩
 ·rw [if_neg c2] at H
  have c2b0 : decide (3000 < (a0.size : Int)) = false:=decide_eq_false c2
  have c2b1 : decide (3000 < a0.size) = false:=decide_eq_false (by omega)
  clear c2
  have H':=Am H
  clear H
  go_enter Try.func34,Try.ntmps34
  go_wp2_with (first|((with_reducible refine gate_dst (N:=2) rfl ?_);refine box_event ?hg (N:=2) ?hd (cs:=#[.int .i64 0,.int .i64 0,.slice none 0 0,.slice none 0 0,.int .i64 0,.int .i64 0,.int .i64 0]) (t:=46) ?hr ?_;(case hd => rfl);(case hg => rfl);(case hr => first|(go_simp;done)|(go_simp;rfl));intro gb219 hg w5 hbox hb;have n0_:=Am (below_step (by repeat (first|(with_reducible first|exact HB.out|apply bA|apply bN|apply bD)|exact HB.out)) hb);have n1_:=Am (hbox);have n2_:=Am ((by rw [hg];exact (below_size (by repeat (first|(with_reducible first|exact HB.out|apply bA|apply bN|apply bD)|exact HB.out))) : w.heap.size ≤ gb219));have n3_:=Am ((by rw [hg];exact (below_size (by repeat (first|(with_reducible first|exact HB.out|apply bA|apply bN|apply bD)|exact HB.out))) : w.heap.size ≤ gb219));clear HB;have HB:=n0_;have BK219:=n1_;have GW219:=n2_;have GE219:=n3_;clear n0_ n1_ n2_ n3_;clear hb hbox hg)|((with_reducible refine gate_dst (N:=3) rfl ?_);refine box_event ?hg (N:=3) ?hd (cs:=#[.slice none 0 0,.slice none 0 0,.int .i64 0,.int .i64 0,.int .i64 0]) (t:=31) ?hr ?_;(case hd => rfl);(case hg => rfl);(case hr => first|(go_simp;done)|(go_simp;rfl));intro gb220 hg w6 hbox hb;have n0_:=Am (blk_below (g:=gb219) (o:=.cells #[.int .i64 0,.int .i64 0,.slice none 0 0,.slice none 0 0,.int .i64 0,.int .i64 0,.int .i64 0] 46 (0,0)) (by (with_reducible repeat (first|refine kN ?_ _|refine kD ?_|refine kA ?_ _));exact BK219.out) hb);have n1_:=Am (below_step (by repeat (first|(with_reducible first|exact HB.out|apply bA|apply bN|apply bD|refine bS ?_ GE219.out)|exact HB.out)) hb);have n2_:=Am (hbox);have n3_:=Am ((by rw [hg];exact (below_size (by repeat (first|(with_reducible first|exact HB.out|apply bA|apply bN|apply bD|refine bS ?_ GE219.out)|exact HB.out))) : w.heap.size ≤ gb220));have n4_:=Am ((by rw [hg];exact (below_size (by repeat (first|(with_reducible first|exact HB.out|apply bA|apply bN|apply bD|refine bS ?_ GE219.out)|exact HB.out))) : w.heap.size ≤ gb220));have n5_:=Am ((by rw [hg];exact Nat.ne_of_lt (blk_lt (g:=gb219) (o:=.cells #[.int .i64 0,.int .i64 0,.slice none 0 0,.slice none 0 0,.int .i64 0,.int .i64 0,.int .i64 0] 46 (0,0)) (by (with_reducible repeat (first|refine kN ?_ _|refine kD ?_|refine kA ?_ _));exact BK219.out)) : gb219 ≠ gb220));have n6_:=Am ((by rw [hg];exact Nat.ne_of_gt (blk_lt (g:=gb219) (o:=.cells #[.int .i64 0,.int .i64 0,.slice none 0 0,.slice none 0 0,.int .i64 0,.int .i64 0,.int .i64 0] 46 (0,0)) (by (with_reducible repeat (first|refine kN ?_ _|refine kD ?_|refine kA ?_ _));exact BK219.out)) : gb220 ≠ gb219));clear BK219;clear HB;have BK219:=n0_;have HB:=n1_;have BK220:=n2_;have GW220:=n3_;have GE220:=n4_;have NB219_220:=n5_;have NB220_219:=n6_;clear n0_ n1_ n2_ n3_ n4_ n5_ n6_;clear hb hbox hg))
  go_loopg [4] k (fun kq v4 w' => ∃ (x4_1 : Int) (x220000_1 : Int) (x220001_1 : Int) (x220004_1 : Int) (x220005_1 : Int) (x220006_1 : Int) (x221000_1 : List (S71)) (x221001_1 : List (S75)) (x221002_1 : Int) (x221003_1 : Int) (x221004_1 : Int) (u221000 : Value) (u221001 : Value),v4 = .int .i64 x4_1∧As (impl_ReadProfile.l0 kq a0 x4_1 x221000_1 x221001_1 x221002_1 x221003_1 x221004_1 = some (r1,r2,r3,r4,r5,r6,r7))∧As (kq ≤ k)∧As (Kd.R k71 71 w' w.heap.size (fun _ => True) u221000 x221000_1)∧As (Kd.R k75 75 w' w.heap.size (fun _ => True) u221001 x221001_1)∧As (w'.heap[gb219]? = some (.cells #[.int .i64 x220000_1,.int .i64 x220001_1,(.slice none 0 0),(.slice none 0 0),.int .i64 x220004_1,.int .i64 x220005_1,.int .i64 x220006_1] 46 (0,0)))∧As (w'.heap[gb220]? = some (.cells #[u221000,u221001,.int .i64 x221002_1,.int .i64 x221003_1,.int .i64 x221004_1] 31 (0,0)))∧As (Below w.heap.size w w'))
  case atStart => exact ⟨(0),(0),(0),(0),(0),(0),(([] : List (S71))),(([] : List (S75))),(0),(0),(0),(.slice none 0 0),(.slice none 0 0),(by first|rfl|(simp;done)|(simp [*];done)),H',⟨Nat.le_refl _⟩,⟨by first|exact Kd.R_nil _ _ _ _ _|exact Kd.N_nil _ _ _ _ _|exact Kd.V_nil _ _ _ _ _|exact Kd.Q_nil _ _ _ _ _|exact Kd.S_nil _ _ _ _ _⟩,⟨by first|exact Kd.R_nil _ _ _ _ _|exact Kd.N_nil _ _ _ _ _|exact Kd.V_nil _ _ _ _ _|exact Kd.Q_nil _ _ _ _ _|exact Kd.S_nil _ _ _ _ _⟩,⟨by (with_reducible repeat (first|refine kN ?_ _|refine kD ?_|refine kA ?_ _));exact BK219.out⟩,⟨by (with_reducible repeat (first|refine kN ?_ _|refine kD ?_|refine kA ?_ _));exact BK220.out⟩,⟨by repeat (first|(with_reducible first|exact HB.out|apply bA|apply bN|apply bD|refine bS ?_ GE219.out|refine bS ?_ GE220.out)|exact HB.out)⟩⟩
  case round =>
   clear H'
   try clear c2
   try clear c2b0
   try clear c2b1
   try clear p2
   try clear c3
   try clear hcz4_0
   try clear hcz4_1
   try clear hcz4_2
   try clear hcz4_3
   try clear hcz4_4
   try clear hcz4_5
   try clear hcz4_6
   try clear hfz4_0
   try clear hfz4_1
   try clear hfz4_2
   try clear hfz4_3
   try clear hfz4_4
   try clear hfz4_5
   try clear hfz4_6
   obtain ⟨x4_1,x220000_1,x220001_1,x220004_1,x220005_1,x220006_1,x221000_1,x221001_1,x221002_1,x221003_1,x221004_1,u221000,u221001,rfl,HA,HK1,HO_221000,HO_221001,BK219,BK220,HB⟩:=hrel
   cases gk with
   | zero => exact absurd HA.out (by simp [impl_ReadProfile.l0])
   | succ k1 =>
    have H:=HA.out
    clear HA
    simp only [impl_ReadProfile.l0] at H
    obtain ⟨y221,hy221⟩ : ∃ y_ : List ByteArray,y_ = (([(⟨#[116,114,97,99,107,32,35,32,98,114,97,107,101,32,35,10]⟩ : ByteArray)] : List ByteArray)):=⟨_,rfl⟩
    replace H : (if (x221001_1.length : Int) > 0 then (impl_ReadProfile.j1 k1 a0 x4_1 (([(⟨#[108,105,109,105,116,32,35,32,35,32,35,10]⟩ : ByteArray),(⟨#[116,114,97,105,110,32,35,32,101,110,100,32,35,32,100,101,108,97,121,32,35,10]⟩ : ByteArray)] : List ByteArray)) x221000_1 x221001_1 x221002_1 x221003_1 x221004_1) else (if (x221000_1.length : Int) > 0 then ((some (([(⟨#[108,105,109,105,116,32,35,32,35,32,35,10]⟩ : ByteArray),(⟨#[116,114,97,105,110,32,35,32,101,110,100,32,35,32,100,101,108,97,121,32,35,10]⟩ : ByteArray)] : List ByteArray) : List ByteArray)).bind fun y227 => (if y221.length + y227.length < 8796093022208 then (impl_ReadProfile.j1 k1 a0 x4_1 (y221 ++ y227) x221000_1 x221001_1 x221002_1 x221003_1 x221004_1) else (none))) else (impl_ReadProfile.j1 k1 a0 x4_1 y221 x221000_1 x221001_1 x221002_1 x221003_1 x221004_1))) = some (r1,r2,r3,r4,r5,r6,r7):=by first|(rw [hy221];with_reducible exact H)|(have H2_:=(Option.bind_some _ _).symm.trans H;rw [hy221];with_reducible exact H2_)|(have H2_:=(Option.bind_some _ _).symm.trans H;with_reducible exact H2_)|with_reducible exact H|(rw [hy221];exact H)|exact H
    have Ny221:=Am hy221
    clear hy221
    have HC7:=Am H
    clear H
    go_upto_block 2 with (first|((with_reducible refine gate_dst (N:=18) rfl ?_);refine Kd.R_lit Kd.string _ 9 ?hg (N:=18) ?hd (xs:=([(⟨#[116,114,97,99,107,32,35,32,98,114,97,107,101,32,35,10]⟩ : ByteArray)] : List ByteArray)) (inner:=[.string (⟨#[116,114,97,99,107,32,35,32,98,114,97,107,101,32,35,10]⟩ : ByteArray)]) (ok:=fun _ => True) (okp:=fun _ => True) ?hr ?hp (fun _ hk => hk) trivial (Below.refl _ _) (Nat.le_refl _) (by simp) ?_;(case hd => rfl);(case hg => rfl);(case hr => first|(go_simp;done)|(go_simp;rfl));(case hp => exact (Reps.one (show Kd.M Kd.string _ _ _ (⟨#[116,114,97,99,107,32,35,32,98,114,97,107,101,32,35,10]⟩ : ByteArray) [.string (⟨#[116,114,97,99,107,32,35,32,98,114,97,107,101,32,35,10]⟩ : ByteArray)] from rfl) (Reps.none _ _)));intro v222 w8 ho9 hb hg_ hnew_;clear hg_ hnew_;(first|rw [← Ny221.out] at ho9|(simp only [Int.reduceToNat] at ho9;rw [← Ny221.out] at ho9));have n0_:=Am (Kd.R_below (by (with_reducible repeat (first|apply Kd.R_alloc|apply Kd.R_drewN|apply Kd.R_drew));exact HO_221000.out) hb);have n1_:=Am (Kd.R_below (by (with_reducible repeat (first|apply Kd.R_alloc|apply Kd.R_drewN|apply Kd.R_drew));exact HO_221001.out) hb);have n2_:=Am (Kd.R_lower ho9 (below_size (by repeat (first|(with_reducible first|exact HB.out|apply bA|apply bN|apply bD|refine bS ?_ GE219.out|refine bS ?_ GE220.out)|exact HB.out))));have n3_:=Am (blk_below (g:=gb219) (o:=.cells #[.int .i64 x220000_1,.int .i64 x220001_1,.slice none 0 0,.slice none 0 0,.int .i64 x220004_1,.int .i64 x220005_1,.int .i64 x220006_1] 46 (0,0)) (by (with_reducible repeat (first|refine kN ?_ _|refine kD ?_|refine kA ?_ _));exact BK219.out) hb);have n4_:=Am (blk_below (g:=gb220) (o:=.cells #[u221000,u221001,.int .i64 x221002_1,.int .i64 x221003_1,.int .i64 x221004_1] 31 (0,0)) (by (with_reducible repeat (first|refine kN ?_ _|refine kD ?_|refine kA ?_ _));exact BK220.out) hb);have n5_:=Am (below_step (by repeat (first|(with_reducible first|exact HB.out|apply bA|apply bN|apply bD|refine bS ?_ GE219.out|refine bS ?_ GE220.out)|exact HB.out)) hb);clear HO_221000;clear HO_221001;clear BK219;clear BK220;clear HB;have HO_221000:=n0_;have HO_221001:=n1_;have HO223:=n2_;have BK219:=n3_;have BK220:=n4_;have HB:=n5_;clear n0_ n1_ n2_ n3_ n4_ n5_;clear hb ho9))
    (try simp only [Act.put,List.setIfInBounds_toArray,List.set_cons_zero,List.set_cons_succ])
    go_cut [5] (fun v5 wc => ∃ (kq : Nat) (x5_6 : List ByteArray),As (impl_ReadProfile.j1 kq a0 x4_1 x5_6 x221000_1 x221001_1 x221002_1 x221003_1 x221004_1 = some (r1,r2,r3,r4,r5,r6,r7))∧As (kq ≤ k1)∧As (Kd.R Kd.string 9 wc w.heap.size (fun _ => True) v5 x5_6)∧As (Kd.R k71 71 wc w.heap.size (fun _ => True) u221000 x221000_1)∧As (Kd.R k75 75 wc w.heap.size (fun _ => True) u221001 x221001_1)∧As (wc.heap[gb219]? = some (.cells #[.int .i64 x220000_1,.int .i64 x220001_1,(.slice none 0 0),(.slice none 0 0),.int .i64 x220004_1,.int .i64 x220005_1,.int .i64 x220006_1] 46 (0,0)))∧As (wc.heap[gb220]? = some (.cells #[u221000,u221001,.int .i64 x221002_1,.int .i64 x221003_1,.int .i64 x221004_1] 31 (0,0)))∧As (Below w.heap.size w wc))
    case first =>
     have H:=HC7.out
     clear HC7
     by_cases c10 : (x221001_1.length : Int) > 0
     ·rw [if_pos c10] at H
      have c10b0 : decide (0 < (x221001_1.length : Int)) = true:=decide_eq_true c10
      have c10b1 : decide (0 < x221001_1.length) = true:=decide_eq_true (by omega)
      clear c10
      (first|rw [c10b0]|(simp only [i64_w,i32_w];rw [c10b0])|skip)
      obtain ⟨y224,hy224⟩ : ∃ y_ : List ByteArray,y_ = (([(⟨#[108,105,109,105,116,32,35,32,35,32,35,10]⟩ : ByteArray),(⟨#[116,114,97,105,110,32,35,32,101,110,100,32,35,32,100,101,108,97,121,32,35,10]⟩ : ByteArray)] : List ByteArray)):=⟨_,rfl⟩
      replace H : (impl_ReadProfile.j1 k1 a0 x4_1 y224 x221000_1 x221001_1 x221002_1 x221003_1 x221004_1) = some (r1,r2,r3,r4,r5,r6,r7):=by first|(rw [hy224];with_reducible exact H)|(have H2_:=(Option.bind_some _ _).symm.trans H;rw [hy224];with_reducible exact H2_)|(have H2_:=(Option.bind_some _ _).symm.trans H;with_reducible exact H2_)|with_reducible exact H|(rw [hy224];exact H)|exact H
      have Ny224:=Am hy224
      clear hy224
      have H':=Am H
      clear H
      have hnb11:=NB220_219.out
      have hnc11:=NB219_220.out
      have hcz12_0 : w8.cell? ⟨gb220,0,none⟩ = some (u221000):=(kC BK220.out 0).trans rfl
      have hcz12_1 : w8.cell? ⟨gb220,1,none⟩ = some (u221001):=(kC BK220.out 1).trans rfl
      have hcz12_2 : w8.cell? ⟨gb220,2,none⟩ = some (.int .i64 x221002_1):=(kC BK220.out 2).trans rfl
      have hcz12_3 : w8.cell? ⟨gb220,3,none⟩ = some (.int .i64 x221003_1):=(kC BK220.out 3).trans rfl
      have hcz12_4 : w8.cell? ⟨gb220,4,none⟩ = some (.int .i64 x221004_1):=(kC BK220.out 4).trans rfl
      have hfz12_0:=kF BK220.out 0
      have hfz12_1:=kF BK220.out 1
      have hfz12_2:=kF BK220.out 2
      have hfz12_3:=kF BK220.out 3
      have hfz12_4:=kF BK220.out 4
      obtain ⟨Ao13,co13,eo13⟩:=Kd.R_slice HO_221001.out
      subst eo13
      go_wp2_with (first|((with_reducible refine gate_dst (N:=24) rfl ?_);refine Kd.R_lit Kd.string _ 9 ?hg (N:=24) ?hd (xs:=([(⟨#[108,105,109,105,116,32,35,32,35,32,35,10]⟩ : ByteArray),(⟨#[116,114,97,105,110,32,35,32,101,110,100,32,35,32,100,101,108,97,121,32,35,10]⟩ : ByteArray)] : List ByteArray)) (inner:=[.string (⟨#[108,105,109,105,116,32,35,32,35,32,35,10]⟩ : ByteArray),.string (⟨#[116,114,97,105,110,32,35,32,101,110,100,32,35,32,100,101,108,97,121,32,35,10]⟩ : ByteArray)]) (ok:=fun _ => True) (okp:=fun _ => True) ?hr ?hp (fun _ hk => hk) trivial (Below.refl _ _) (Nat.le_refl _) (by simp) ?_;(case hd => rfl);(case hg => rfl);(case hr => first|(go_simp;done)|(go_simp;rfl));(case hp => exact (Reps.one (show Kd.M Kd.string _ _ _ (⟨#[108,105,109,105,116,32,35,32,35,32,35,10]⟩ : ByteArray) [.string (⟨#[108,105,109,105,116,32,35,32,35,32,35,10]⟩ : ByteArray)] from rfl) (Reps.one (show Kd.M Kd.string _ _ _ (⟨#[116,114,97,105,110,32,35,32,101,110,100,32,35,32,100,101,108,97,121,32,35,10]⟩ : ByteArray) [.string (⟨#[116,114,97,105,110,32,35,32,101,110,100,32,35,32,100,101,108,97,121,32,35,10]⟩ : ByteArray)] from rfl) (Reps.none _ _))));intro v225 w14 ho15 hb hg_ hnew_;clear hg_ hnew_;(first|rw [← Ny224.out] at ho15|(simp only [Int.reduceToNat] at ho15;rw [← Ny224.out] at ho15));have n0_:=Am (Kd.R_below (by (with_reducible repeat (first|apply Kd.R_alloc|apply Kd.R_drewN|apply Kd.R_drew));exact HO_221000.out) hb);have n1_:=Am (Kd.R_below (by (with_reducible repeat (first|apply Kd.R_alloc|apply Kd.R_drewN|apply Kd.R_drew));exact HO_221001.out) hb);have n2_:=Am (Kd.R_elder' (by (with_reducible repeat (first|apply Kd.R_alloc|apply Kd.R_drewN|apply Kd.R_drew));exact HO223.out) (Kd.R_base ho15) hb);have n3_:=Am (Kd.R_lower (Kd.R_new' ho15 (Kd.R_lt (by (with_reducible repeat (first|apply Kd.R_alloc|apply Kd.R_drewN|apply Kd.R_drew));exact HO223.out))) (below_size (by repeat (first|(with_reducible first|exact HB.out|apply bA|apply bN|apply bD|refine bS ?_ GE219.out|refine bS ?_ GE220.out)|exact HB.out))));have n4_:=Am (blk_below (g:=gb219) (o:=.cells #[.int .i64 x220000_1,.int .i64 x220001_1,.slice none 0 0,.slice none 0 0,.int .i64 x220004_1,.int .i64 x220005_1,.int .i64 x220006_1] 46 (0,0)) (by (with_reducible repeat (first|refine kN ?_ _|refine kD ?_|refine kA ?_ _));exact BK219.out) hb);have n5_:=Am (blk_below (g:=gb220) (o:=.cells #[u221000,.slice Ao13 x221001_1.length co13,.int .i64 x221002_1,.int .i64 x221003_1,.int .i64 x221004_1] 31 (0,0)) (by (with_reducible repeat (first|refine kN ?_ _|refine kD ?_|refine kA ?_ _));exact BK220.out) hb);have n6_:=Am (below_step (by repeat (first|(with_reducible first|exact HB.out|apply bA|apply bN|apply bD|refine bS ?_ GE219.out|refine bS ?_ GE220.out)|exact HB.out)) hb);clear HO_221000;clear HO_221001;clear HO223;clear BK219;clear BK220;clear HB;have HO_221000:=n0_;have HO_221001:=n1_;have HO223:=n2_;have HO226:=n3_;have BK219:=n4_;have BK220:=n5_;have HB:=n6_;clear n0_ n1_ n2_ n3_ n4_ n5_ n6_;clear hb ho15))
      go_meet
      case rel => exact ⟨_,(y224),H',⟨by have:=HK1.out;first|omega|exact Nat.le_refl _⟩,⟨by (with_reducible repeat (first|apply Kd.R_alloc|apply Kd.R_drewN|apply Kd.R_drew));exact Kd.R_mono HO226.out (fun _ hk => trivial)⟩,⟨by (with_reducible repeat (first|apply Kd.R_alloc|apply Kd.R_drewN|apply Kd.R_drew));exact HO_221000.out⟩,⟨by (with_reducible repeat (first|apply Kd.R_alloc|apply Kd.R_drewN|apply Kd.R_drew));exact HO_221001.out⟩,⟨by (with_reducible repeat (first|refine kN ?_ _|refine kD ?_|refine kA ?_ _));exact BK219.out⟩,⟨by (with_reducible repeat (first|refine kN ?_ _|refine kD ?_|refine kA ?_ _));exact BK220.out⟩,⟨by repeat (first|(with_reducible first|exact HB.out|apply bA|apply bN|apply bD|refine bS ?_ GE219.out|refine bS ?_ GE220.out)|exact HB.out)⟩⟩
     ·rw [if_neg c10] at H
      have c10b0 : decide (0 < (x221001_1.length : Int)) = false:=decide_eq_false c10
      have c10b1 : decide (0 < x221001_1.length) = false:=decide_eq_false (by omega)
      clear c10
      (first|rw [c10b0]|(simp only [i64_w,i32_w];rw [c10b0])|skip)
      by_cases c16 : (x221000_1.length : Int) > 0
      ·rw [if_pos c16] at H
       have c16b0 : decide (0 < (x221000_1.length : Int)) = true:=decide_eq_true c16
       have c16b1 : decide (0 < x221000_1.length) = true:=decide_eq_true (by omega)
       clear c16
       obtain ⟨y227,hy227⟩ : ∃ y_ : List ByteArray,y_ = (([(⟨#[108,105,109,105,116,32,35,32,35,32,35,10]⟩ : ByteArray),(⟨#[116,114,97,105,110,32,35,32,101,110,100,32,35,32,100,101,108,97,121,32,35,10]⟩ : ByteArray)] : List ByteArray)):=⟨_,rfl⟩
       replace H : (if y221.length + y227.length < 8796093022208 then (impl_ReadProfile.j1 k1 a0 x4_1 (y221 ++ y227) x221000_1 x221001_1 x221002_1 x221003_1 x221004_1) else (none)) = some (r1,r2,r3,r4,r5,r6,r7):=by first|(rw [hy227];with_reducible exact H)|(have H2_:=(Option.bind_some _ _).symm.trans H;rw [hy227];with_reducible exact H2_)|(have H2_:=(Option.bind_some _ _).symm.trans H;with_reducible exact H2_)|with_reducible exact H|(rw [hy227];exact H)|exact H
       have Ny227:=Am hy227
       clear hy227
       by_cases c17 : y221.length + y227.length < 8796093022208
       ·rw [if_pos c17] at H
        have LMc17:=Am c17
        clear c17
        obtain ⟨y230,hy230⟩ : ∃ y_ : List ByteArray,y_ = (y221 ++ y227):=⟨_,rfl⟩
        replace H : (impl_ReadProfile.j1 k1 a0 x4_1 y230 x221000_1 x221001_1 x221002_1 x221003_1 x221004_1) = some (r1,r2,r3,r4,r5,r6,r7):=by first|(rw [hy230];with_reducible exact H)|(have H2_:=(Option.bind_some _ _).symm.trans H;rw [hy230];with_reducible exact H2_)|(have H2_:=(Option.bind_some _ _).symm.trans H;with_reducible exact H2_)|with_reducible exact H|(rw [hy230];exact H)|exact H
        have Ny230:=Am hy230
        clear hy230
        have H':=Am H
        clear H
        have hnb18:=NB220_219.out
        have hnc18:=NB219_220.out
        have hcz19_0 : w8.cell? ⟨gb220,0,none⟩ = some (u221000):=(kC BK220.out 0).trans rfl
        have hcz19_1 : w8.cell? ⟨gb220,1,none⟩ = some (u221001):=(kC BK220.out 1).trans rfl
        have hcz19_2 : w8.cell? ⟨gb220,2,none⟩ = some (.int .i64 x221002_1):=(kC BK220.out 2).trans rfl
        have hcz19_3 : w8.cell? ⟨gb220,3,none⟩ = some (.int .i64 x221003_1):=(kC BK220.out 3).trans rfl
        have hcz19_4 : w8.cell? ⟨gb220,4,none⟩ = some (.int .i64 x221004_1):=(kC BK220.out 4).trans rfl
        have hfz19_0:=kF BK220.out 0
        have hfz19_1:=kF BK220.out 1
        have hfz19_2:=kF BK220.out 2
        have hfz19_3:=kF BK220.out 3
        have hfz19_4:=kF BK220.out 4
        obtain ⟨Ao20,co20,eo20⟩:=Kd.R_slice HO_221001.out
        subst eo20
        obtain ⟨Ao21,co21,eo21⟩:=Kd.R_slice HO_221000.out
        subst eo21
        go_wp2_with (first|((with_reducible refine gate_dst (N:=31) rfl ?_);refine Kd.R_lit Kd.string _ 9 ?hg (N:=31) ?hd (xs:=([(⟨#[108,105,109,105,116,32,35,32,35,32,35,10]⟩ : ByteArray),(⟨#[116,114,97,105,110,32,35,32,101,110,100,32,35,32,100,101,108,97,121,32,35,10]⟩ : ByteArray)] : List ByteArray)) (inner:=[.string (⟨#[108,105,109,105,116,32,35,32,35,32,35,10]⟩ : ByteArray),.string (⟨#[116,114,97,105,110,32,35,32,101,110,100,32,35,32,100,101,108,97,121,32,35,10]⟩ : ByteArray)]) (ok:=fun _ => True) (okp:=fun _ => True) ?hr ?hp (fun _ hk => hk) trivial (Below.refl _ _) (Nat.le_refl _) (by simp) ?_;(case hd => rfl);(case hg => rfl);(case hr => first|(go_simp;done)|(go_simp;rfl));(case hp => exact (Reps.one (show Kd.M Kd.string _ _ _ (⟨#[108,105,109,105,116,32,35,32,35,32,35,10]⟩ : ByteArray) [.string (⟨#[108,105,109,105,116,32,35,32,35,32,35,10]⟩ : ByteArray)] from rfl) (Reps.one (show Kd.M Kd.string _ _ _ (⟨#[116,114,97,105,110,32,35,32,101,110,100,32,35,32,100,101,108,97,121,32,35,10]⟩ : ByteArray) [.string (⟨#[116,114,97,105,110,32,35,32,101,110,100,32,35,32,100,101,108,97,121,32,35,10]⟩ : ByteArray)] from rfl) (Reps.none _ _))));intro v228 w22 ho23 hb hg_ hnew_;clear hg_ hnew_;(first|rw [← Ny227.out] at ho23|(simp only [Int.reduceToNat] at ho23;rw [← Ny227.out] at ho23));have n0_:=Am (Kd.R_below (by (with_reducible repeat (first|apply Kd.R_alloc|apply Kd.R_drewN|apply Kd.R_drew));exact HO_221000.out) hb);have n1_:=Am (Kd.R_below (by (with_reducible repeat (first|apply Kd.R_alloc|apply Kd.R_drewN|apply Kd.R_drew));exact HO_221001.out) hb);have n2_:=Am (Kd.R_elder' (by (with_reducible repeat (first|apply Kd.R_alloc|apply Kd.R_drewN|apply Kd.R_drew));exact HO223.out) (Kd.R_base ho23) hb);have n3_:=Am (Kd.R_lower (Kd.R_new' ho23 (Kd.R_lt (by (with_reducible repeat (first|apply Kd.R_alloc|apply Kd.R_drewN|apply Kd.R_drew));exact HO223.out))) (below_size (by repeat (first|(with_reducible first|exact HB.out|apply bA|apply bN|apply bD|refine bS ?_ GE219.out|refine bS ?_ GE220.out)|exact HB.out))));have n4_:=Am (blk_below (g:=gb219) (o:=.cells #[.int .i64 x220000_1,.int .i64 x220001_1,.slice none 0 0,.slice none 0 0,.int .i64 x220004_1,.int .i64 x220005_1,.int .i64 x220006_1] 46 (0,0)) (by (with_reducible repeat (first|refine kN ?_ _|refine kD ?_|refine kA ?_ _));exact BK219.out) hb);have n5_:=Am (blk_below (g:=gb220) (o:=.cells #[.slice Ao21 x221000_1.length co21,.slice Ao20 x221001_1.length co20,.int .i64 x221002_1,.int .i64 x221003_1,.int .i64 x221004_1] 31 (0,0)) (by (with_reducible repeat (first|refine kN ?_ _|refine kD ?_|refine kA ?_ _));exact BK220.out) hb);have n6_:=Am (below_step (by repeat (first|(with_reducible first|exact HB.out|apply bA|apply bN|apply bD|refine bS ?_ GE219.out|refine bS ?_ GE220.out)|exact HB.out)) hb);clear HO_221000;clear HO_221001;clear HO223;clear BK219;clear BK220;clear HB;have HO_221000:=n0_;have HO_221001:=n1_;have HO223:=n2_;have HO229:=n3_;have BK219:=n4_;have BK220:=n5_;have HB:=n6_;clear n0_ n1_ n2_ n3_ n4_ n5_ n6_;clear hb ho23;obtain ⟨Ao25,co25,eo25⟩:=Kd.R_slice HO229.out;subst eo25)|((with_reducible refine gate_builtin (b:=.append) (xs:=#[.tmp 30,.tmp 31]) rfl ?_);at_builtin;refine Kd.R_append_rows Kd.string (w0:=w) w.heap.size rfl (.tmp 30) (.tmp 31) 91 9 (.string ⟨#[]⟩) 16 rfl Try.underlying91 info9 rfl (by decide) (by omega) v222 y221 y227 _ _ _ (fun k_ => some k_ ≠ (.slice Ao25 y227.length co25 : Value).ownBlock) (fun _ => False) rfl rfl ?aO ?aR (fun _ _ h => h) (fun _ h => h.elim) ?aF ?aB ?aS ?aL ?_;(case aR => repeat (first|exact (Kd.R_reads' HO229.out).2.2|(with_reducible refine Kd.C_alloc ?_ _)|(with_reducible refine Kd.C_drewN ?_ _)|(with_reducible refine Kd.C_drew ?_)));(case aB => exact (by repeat (first|(with_reducible first|exact HB.out|apply bA|apply bN|apply bD|refine bS ?_ GE219.out|refine bS ?_ GE220.out)|exact HB.out)));(case aF => exact (fun k_ hk => Kd.fresh' (Kd.R_lt (by (with_reducible repeat (first|apply Kd.R_alloc|apply Kd.R_drewN|apply Kd.R_drew));exact HO229.out)) k_ hk));(case aO => exact (by (with_reducible repeat (first|apply Kd.R_alloc|apply Kd.R_drewN|apply Kd.R_drew));exact Kd.R_mono HO223.out (fun _ hk => hk.2)));(case aS => exact (below_size (by repeat (first|(with_reducible first|exact HB.out|apply bA|apply bN|apply bD|refine bS ?_ GE219.out|refine bS ?_ GE220.out)|exact HB.out))));(case aL => have:=LMc17.out;omega);intro v231 w24 ho hb hg hat;rw [← Ny230.out] at ho;have n0_:=Am (Kd.R_over' (by (with_reducible repeat (first|apply Kd.R_alloc|apply Kd.R_drewN|apply Kd.R_drew));exact HO_221000.out) (Kd.R_typed (by (with_reducible repeat (first|apply Kd.R_alloc|apply Kd.R_drewN|apply Kd.R_drew));exact HO223.out)) (by decide) hg);have n1_:=Am (Kd.R_over' (by (with_reducible repeat (first|apply Kd.R_alloc|apply Kd.R_drewN|apply Kd.R_drew));exact HO_221001.out) (Kd.R_typed (by (with_reducible repeat (first|apply Kd.R_alloc|apply Kd.R_drewN|apply Kd.R_drew));exact HO223.out)) (by decide) hg);have n2_:=Am (blk_grown (g:=gb219) (o:=.cells #[.int .i64 x220000_1,.int .i64 x220001_1,.slice none 0 0,.slice none 0 0,.int .i64 x220004_1,.int .i64 x220005_1,.int .i64 x220006_1] 46 (0,0)) (by (with_reducible repeat (first|refine kN ?_ _|refine kD ?_|refine kA ?_ _));exact BK219.out) hg (Kd.R_ne HO223.out BK219.out (by decide)));have n3_:=Am (blk_grown (g:=gb220) (o:=.cells #[.slice Ao21 x221000_1.length co21,.slice Ao20 x221001_1.length co20,.int .i64 x221002_1,.int .i64 x221003_1,.int .i64 x221004_1] 31 (0,0)) (by (with_reducible repeat (first|refine kN ?_ _|refine kD ?_|refine kA ?_ _));exact BK220.out) hg (Kd.R_ne HO223.out BK220.out (by decide)));have n4_:=Am (Kd.R_after (ok:=(fun _ => True)) (by (with_reducible repeat (first|apply Kd.R_alloc|apply Kd.R_drewN|apply Kd.R_drew));exact HO229.out) hg hat);have n5_:=Am (hb);have n6_:=Am (ho);clear HO_221000;clear HO_221001;clear BK219;clear BK220;clear HO229;clear HB;clear HO223;have HO_221000:=n0_;have HO_221001:=n1_;have BK219:=n2_;have BK220:=n3_;have HO229:=n4_;have HB:=n5_;have HO232:=n6_;clear n0_ n1_ n2_ n3_ n4_ n5_ n6_;clear ho hb hg hat))
        go_meet
        case rel => exact ⟨_,(y230),H',⟨by have:=HK1.out;first|omega|exact Nat.le_refl _⟩,⟨by (with_reducible repeat (first|apply Kd.R_alloc|apply Kd.R_drewN|apply Kd.R_drew));exact Kd.R_mono HO232.out (fun _ hk => trivial)⟩,⟨by (with_reducible repeat (first|apply Kd.R_alloc|apply Kd.R_drewN|apply Kd.R_drew));exact HO_221000.out⟩,⟨by (with_reducible repeat (first|apply Kd.R_alloc|apply Kd.R_drewN|apply Kd.R_drew));exact HO_221001.out⟩,⟨by (with_reducible repeat (first|refine kN ?_ _|refine kD ?_|refine kA ?_ _));exact BK219.out⟩,⟨by (with_reducible repeat (first|refine kN ?_ _|refine kD ?_|refine kA ?_ _));exact BK220.out⟩,⟨by repeat (first|(with_reducible first|exact HB.out|apply bA|apply bN|apply bD|refine bS ?_ GE219.out|refine bS ?_ GE220.out)|exact HB.out)⟩⟩
       ·rw [if_neg c17] at H
        exact absurd H (by simp)
      ·rw [if_neg c16] at H
       have c16b0 : decide (0 < (x221000_1.length : Int)) = false:=decide_eq_false c16
       have c16b1 : decide (0 < x221000_1.length) = false:=decide_eq_false (by omega)
       clear c16
       have H':=Am H
       clear H
       have hnb26:=NB220_219.out
       have hnc26:=NB219_220.out
       have hcz27_0 : w8.cell? ⟨gb220,0,none⟩ = some (u221000):=(kC BK220.out 0).trans rfl
       have hcz27_1 : w8.cell? ⟨gb220,1,none⟩ = some (u221001):=(kC BK220.out 1).trans rfl
       have hcz27_2 : w8.cell? ⟨gb220,2,none⟩ = some (.int .i64 x221002_1):=(kC BK220.out 2).trans rfl
       have hcz27_3 : w8.cell? ⟨gb220,3,none⟩ = some (.int .i64 x221003_1):=(kC BK220.out 3).trans rfl
       have hcz27_4 : w8.cell? ⟨gb220,4,none⟩ = some (.int .i64 x221004_1):=(kC BK220.out 4).trans rfl
       have hfz27_0:=kF BK220.out 0
       have hfz27_1:=kF BK220.out 1
       have hfz27_2:=kF BK220.out 2
       have hfz27_3:=kF BK220.out 3
       have hfz27_4:=kF BK220.out 4
       obtain ⟨Ao28,co28,eo28⟩:=Kd.R_slice HO_221001.out
       subst eo28
       obtain ⟨Ao29,co29,eo29⟩:=Kd.R_slice HO_221000.out
       subst eo29
       go_wp2
       go_meet
       case rel => exact ⟨_,(y221),H',⟨by have:=HK1.out;first|omega|exact Nat.le_refl _⟩,⟨by (with_reducible repeat (first|apply Kd.R_alloc|apply Kd.R_drewN|apply Kd.R_drew));exact HO223.out⟩,⟨by (with_reducible repeat (first|apply Kd.R_alloc|apply Kd.R_drewN|apply Kd.R_drew));exact HO_221000.out⟩,⟨by (with_reducible repeat (first|apply Kd.R_alloc|apply Kd.R_drewN|apply Kd.R_drew));exact HO_221001.out⟩,⟨by (with_reducible repeat (first|refine kN ?_ _|refine kD ?_|refine kA ?_ _));exact BK219.out⟩,⟨by (with_reducible repeat (first|refine kN ?_ _|refine kD ?_|refine kA ?_ _));exact BK220.out⟩,⟨by repeat (first|(with_reducible first|exact HB.out|apply bA|apply bN|apply bD|refine bS ?_ GE219.out|refine bS ?_ GE220.out)|exact HB.out)⟩⟩
    case rest =>
     clear HC7
     try clear c1
     try clear c2
     try clear c2b0
     try clear c2b1
     try clear p2
     try clear c3
     try clear c10
     try clear c10b0
     try clear c10b1
     try clear c11
     try clear c16
     try clear c16b0
     try clear c16b1
     try clear c17
     try clear c18
     try clear c26
     try clear hcz12_0
     try clear hcz12_1
     try clear hcz12_2
     try clear hcz12_3
     try clear hcz12_4
     try clear hcz19_0
     try clear hcz19_1
     try clear hcz19_2
     try clear hcz19_3
     try clear hcz19_4
     try clear hcz27_0
     try clear hcz27_1
     try clear hcz27_2
     try clear hcz27_3
     try clear hcz27_4
     try clear hcz4_0
     try clear hcz4_1
     try clear hcz4_2
     try clear hcz4_3
     try clear hcz4_4
     try clear hcz4_5
     try clear hcz4_6
     try clear hfz12_0
     try clear hfz12_1
     try clear hfz12_2
     try clear hfz12_3
     try clear hfz12_4
     try clear hfz19_0
     try clear hfz19_1
     try clear hfz19_2
     try clear hfz19_3
     try clear hfz19_4
     try clear hfz27_0
     try clear hfz27_1
     try clear hfz27_2
     try clear hfz27_3
     try clear hfz27_4
     try clear hfz4_0
     try clear hfz4_1
     try clear hfz4_2
     try clear hfz4_3
     try clear hfz4_4
     try clear hfz4_5
     try clear hfz4_6
     try clear p2
     obtain ⟨kq,x5_6,HA,HJ6,HO_5,HO_221000,HO_221001,BK219,BK220,HB⟩:=hcut
     cases kq with
     | zero => exact absurd HA.out (by simp [impl_ReadProfile.j1])
     | succ kj6 =>
      have H:=HA.out
      clear HA
      simp only [impl_ReadProfile.j1] at H
      have H':=Am H
      clear H
      obtain ⟨Ao30,co30,eo30⟩:=Kd.R_slice HO_5.out
      subst eo30
      go_wp2
      go_loopg [6,7,36] kj6 (fun kq v6 v7 v36 w' => ∃ (x6_3 : Int) (x7_3 : Bool) (x36_3 : Int) (x220000_3 : Int) (x220001_3 : Int) (x220004_3 : Int) (x220005_3 : Int) (x220006_3 : Int) (x221000_3 : List (S71)) (x221001_3 : List (S75)) (x221002_3 : Int) (x221003_3 : Int) (x221004_3 : Int) (u221000 : Value) (u221001 : Value),v6 = .int .i64 x6_3∧v7 = .bool x7_3∧v36 = .int .i64 x36_3∧As (impl_ReadProfile.l1 kq a0 x4_1 x6_3 x7_3 x5_6 (x5_6.length : Int) x36_3 x221000_3 x221001_3 x221002_3 x221003_3 x221004_3 = some (r1,r2,r3,r4,r5,r6,r7))∧As (kq ≤ kj6)∧As (Kd.R Kd.string 9 w' w.heap.size (fun _ => True) (.slice Ao30 x5_6.length co30) x5_6)∧As (Kd.R k71 71 w' w.heap.size (fun _ => True) u221000 x221000_3)∧As (Kd.R k75 75 w' w.heap.size (fun _ => True) u221001 x221001_3)∧As (w'.heap[gb219]? = some (.cells #[.int .i64 x220000_3,.int .i64 x220001_3,(.slice none 0 0),(.slice none 0 0),.int .i64 x220004_3,.int .i64 x220005_3,.int .i64 x220006_3] 46 (0,0)))∧As (w'.heap[gb220]? = some (.cells #[u221000,u221001,.int .i64 x221002_3,.int .i64 x221003_3,.int .i64 x221004_3] 31 (0,0)))∧As (Below w.heap.size w w'))
      case atStart => exact ⟨(x4_1),(false),(0),(x220000_1),(x220001_1),(x220004_1),(x220005_1),(x220006_1),(x221000_1),(x221001_1),(x221002_1),(x221003_1),(x221004_1),(u221000),(u221001),(by first|rfl|(simp;done)|(simp [*];done)),(by first|rfl|(simp;done)|(simp [*];done)),(by first|rfl|(simp;done)|(simp [*];done)),H',⟨Nat.le_refl _⟩,⟨by (with_reducible repeat (first|apply Kd.R_alloc|apply Kd.R_drewN|apply Kd.R_drew));exact HO_5.out⟩,⟨by (with_reducible repeat (first|apply Kd.R_alloc|apply Kd.R_drewN|apply Kd.R_drew));exact HO_221000.out⟩,⟨by (with_reducible repeat (first|apply Kd.R_alloc|apply Kd.R_drewN|apply Kd.R_drew));exact HO_221001.out⟩,⟨by (with_reducible repeat (first|refine kN ?_ _|refine kD ?_|refine kA ?_ _));exact BK219.out⟩,⟨by (with_reducible repeat (first|refine kN ?_ _|refine kD ?_|refine kA ?_ _));exact BK220.out⟩,⟨by repeat (first|(with_reducible first|exact HB.out|apply bA|apply bN|apply bD|refine bS ?_ GE219.out|refine bS ?_ GE220.out)|exact HB.out)⟩⟩
      case round =>
       clear H'
       try clear c1
       try clear c2
       try clear c2b0
       try clear c2b1
       try clear p2
       try clear c3
       try clear c10
       try clear c10b0
       try clear c10b1
       try clear c11
       try clear c16
       try clear c16b0
       try clear c16b1
       try clear c17
       try clear c18
       try clear c26
       try clear hcz12_0
       try clear hcz12_1
       try clear hcz12_2
       try clear hcz12_3
       try clear hcz12_4
       try clear hcz19_0
       try clear hcz19_1
       try clear hcz19_2
       try clear hcz19_3
       try clear hcz19_4
       try clear hcz27_0
       try clear hcz27_1
       try clear hcz27_2
       try clear hcz27_3
       try clear hcz27_4
       try clear hcz4_0
       try clear hcz4_1
       try clear hcz4_2
       try clear hcz4_3
       try clear hcz4_4
       try clear hcz4_5
       try clear hcz4_6
       try clear hfz12_0
       try clear hfz12_1
       try clear hfz12_2
       try clear hfz12_3
       try clear hfz12_4
       try clear hfz19_0
       try clear hfz19_1
       try clear hfz19_2
       try clear hfz19_3
       try clear hfz19_4
       try clear hfz27_0
       try clear hfz27_1
       try clear hfz27_2
       try clear hfz27_3
       try clear hfz27_4
       try clear hfz4_0
       try clear hfz4_1
       try clear hfz4_2
       try clear hfz4_3
       try clear hfz4_4
       try clear hfz4_5
       try clear hfz4_6
       try clear p2
       obtain ⟨x6_3,x7_3,x36_3,x220000_3,x220001_3,x220004_3,x220005_3,x220006_3,x221000_3,x221001_3,x221002_3,x221003_3,x221004_3,u221000,u221001,rfl,rfl,rfl,HA,HK3,HO_34,HO_221000,HO_221001,BK219,BK220,HB⟩:=hrel
       cases gk with
       | zero => exact absurd HA.out (by simp [impl_ReadProfile.l1])
       | succ k3 =>
        have H:=HA.out
        clear HA
        simp only [impl_ReadProfile.l1] at H
        by_cases c31 : x36_3 < (x5_6.length : Int)
        ·rw [if_pos c31] at H
         have c31b0 : decide (x36_3 < (x5_6.length : Int)) = true:=decide_eq_true c31
         clear c31
         by_cases c32 : 0 ≤ x36_3
         ·rw [if_pos c32] at H
          have c32b0 : decide (0 ≤ x36_3) = true:=decide_eq_true c32
          clear c32
          by_cases c33 : x36_3 < (x5_6.length : Int)
          ·rw [if_pos c33] at H
           have c33b0 : decide (x36_3 < (x5_6.length : Int)) = true:=decide_eq_true c33
           clear c33
           replace H:=Option.bind_eq_some_iff.mp H
           obtain ⟨⟨t234,t235,t236⟩,A340,H⟩:=H
           replace H : (if t236 = true then (if 0 ≤ 3 then (if 3 ≤ ((rdOf ByteArray.empty x5_6 x36_3).size : Int) then (if ((rdOf ByteArray.empty x5_6 x36_3).extract 0 3).toList = ([108,105,109] : List UInt8) then (if 0 < (t234.length : Int) then (if 1 < (t234.length : Int) then (if 2 < (t234.length : Int) then (if x221001_3.length < 5864062014805 then (impl_ReadProfile.l0 k3 a0 (mx x6_3 t235) x221000_3 (x221001_3 ++ [(⟨rd t234 0,rd t234 1,rd t234 2⟩ : S75)]) x221002_3 x221003_3 x221004_3) else (none)) else (none)) else (none)) else (none)) else (if 3 < ((rdOf ByteArray.empty x5_6 x36_3).size : Int) then (if (bt (rdOf ByteArray.empty x5_6 x36_3) 3) = 99 then (if 0 < (t234.length : Int) then (if 1 < (t234.length : Int) then (if x221000_3.length < 8796093022208 then (impl_ReadProfile.l0 k3 a0 (mx x6_3 t235) (x221000_3 ++ [(⟨rd t234 0,rd t234 1⟩ : S71)]) x221001_3 x221002_3 x221003_3 x221004_3) else (none)) else (none)) else (none)) else (if 0 < (t234.length : Int) then (if 1 < (t234.length : Int) then (if 2 < (t234.length : Int) then (if t235 < (a0.size : Int) then (some (1,t235,([] : List (S71)),([] : List (S75)),0,0,0)) else ((impl_ProfileOk.f x221000_3 x221001_3 (rd t234 0) (rd t234 1) (rd t234 2)).bind fun t253 => (if t253 = 0 then (some (0,0,x221000_3,x221001_3,rd t234 0,rd t234 1,rd t234 2)) else (some (wrap64 (1 + t253),0,([] : List (S71)),([] : List (S75)),0,0,0))))) else (none)) else (none)) else (none))) else (none))) else (none)) else (none)) else (impl_ReadProfile.l1 k3 a0 x4_1 (mx x6_3 t235) x7_3 x5_6 (x5_6.length : Int) (wrap64 (x36_3 + 1)) x221000_3 x221001_3 x221002_3 x221003_3 x221004_3)) = some (r1,r2,r3,r4,r5,r6,r7):=H
           have A34:=Am A340
           clear A340
           obtain ⟨ji35,hji35⟩ : ∃ j_ : Int,(mx x6_3 t235) = j_:=⟨_,rfl⟩
           replace H : (if t236 = true then (if 0 ≤ 3 then (if 3 ≤ ((rdOf ByteArray.empty x5_6 x36_3).size : Int) then (if ((rdOf ByteArray.empty x5_6 x36_3).extract 0 3).toList = ([108,105,109] : List UInt8) then (if 0 < (t234.length : Int) then (if 1 < (t234.length : Int) then (if 2 < (t234.length : Int) then (if x221001_3.length < 5864062014805 then (impl_ReadProfile.l0 k3 a0 ji35 x221000_3 (x221001_3 ++ [(⟨rd t234 0,rd t234 1,rd t234 2⟩ : S75)]) x221002_3 x221003_3 x221004_3) else (none)) else (none)) else (none)) else (none)) else (if 3 < ((rdOf ByteArray.empty x5_6 x36_3).size : Int) then (if (bt (rdOf ByteArray.empty x5_6 x36_3) 3) = 99 then (if 0 < (t234.length : Int) then (if 1 < (t234.length : Int) then (if x221000_3.length < 8796093022208 then (impl_ReadProfile.l0 k3 a0 ji35 (x221000_3 ++ [(⟨rd t234 0,rd t234 1⟩ : S71)]) x221001_3 x221002_3 x221003_3 x221004_3) else (none)) else (none)) else (none)) else (if 0 < (t234.length : Int) then (if 1 < (t234.length : Int) then (if 2 < (t234.length : Int) then (if t235 < (a0.size : Int) then (some (1,t235,([] : List (S71)),([] : List (S75)),0,0,0)) else ((impl_ProfileOk.f x221000_3 x221001_3 (rd t234 0) (rd t234 1) (rd t234 2)).bind fun t253 => (if t253 = 0 then (some (0,0,x221000_3,x221001_3,rd t234 0,rd t234 1,rd t234 2)) else (some (wrap64 (1 + t253),0,([] : List (S71)),([] : List (S75)),0,0,0))))) else (none)) else (none)) else (none))) else (none))) else (none)) else (none)) else (impl_ReadProfile.l1 k3 a0 x4_1 ji35 x7_3 x5_6 (x5_6.length : Int) (wrap64 (x36_3 + 1)) x221000_3 x221001_3 x221002_3 x221003_3 x221004_3)) = some (r1,r2,r3,r4,r5,r6,r7):=by first|(rw [hji35] at H;exact H)|(simp only [hji35] at H ⊢;exact H)
           (try rw [hji35] at A34)
           have hji35_ : (if x6_3 < t235 then t235 else x6_3) = ji35:=hji35
           by_cases c36 : t236 = true
           ·subst c36
            have H1 : (if 0 ≤ 3 then (if 3 ≤ ((rdOf ByteArray.empty x5_6 x36_3).size : Int) then (if ((rdOf ByteArray.empty x5_6 x36_3).extract 0 3).toList = ([108,105,109] : List UInt8) then (if 0 < (t234.length : Int) then (if 1 < (t234.length : Int) then (if 2 < (t234.length : Int) then (if x221001_3.length < 5864062014805 then (impl_ReadProfile.l0 k3 a0 ji35 x221000_3 (x221001_3 ++ [(⟨rd t234 0,rd t234 1,rd t234 2⟩ : S75)]) x221002_3 x221003_3 x221004_3) else (none)) else (none)) else (none)) else (none)) else (if 3 < ((rdOf ByteArray.empty x5_6 x36_3).size : Int) then (if (bt (rdOf ByteArray.empty x5_6 x36_3) 3) = 99 then (if 0 < (t234.length : Int) then (if 1 < (t234.length : Int) then (if x221000_3.length < 8796093022208 then (impl_ReadProfile.l0 k3 a0 ji35 (x221000_3 ++ [(⟨rd t234 0,rd t234 1⟩ : S71)]) x221001_3 x221002_3 x221003_3 x221004_3) else (none)) else (none)) else (none)) else (if 0 < (t234.length : Int) then (if 1 < (t234.length : Int) then (if 2 < (t234.length : Int) then (if t235 < (a0.size : Int) then (some (1,t235,([] : List (S71)),([] : List (S75)),0,0,0)) else ((impl_ProfileOk.f x221000_3 x221001_3 (rd t234 0) (rd t234 1) (rd t234 2)).bind fun t253 => (if t253 = 0 then (some (0,0,x221000_3,x221001_3,rd t234 0,rd t234 1,rd t234 2)) else (some (wrap64 (1 + t253),0,([] : List (S71)),([] : List (S75)),0,0,0))))) else (none)) else (none)) else (none))) else (none))) else (none)) else (none)) = some (r1,r2,r3,r4,r5,r6,r7):=by rw [if_pos rfl] at H;exact H
            clear H
            have H:=H1
            clear H1
            by_cases c37 : 0 ≤ 3
            ·rw [if_pos c37] at H
             have c37b0:=eq_true c37
             have c37b1 : decide (0 ≤ 3) = true:=decide_eq_true c37
             clear c37
             by_cases c38 : 3 ≤ ((rdOf ByteArray.empty x5_6 x36_3).size : Int)
             ·rw [if_pos c38] at H
              have c38b0:=eq_true c38
              have c38b1 : decide (3 ≤ ((rdOf ByteArray.empty x5_6 x36_3).size : Int)) = true:=decide_eq_true c38
              clear c38
              by_cases c39 : ((rdOf ByteArray.empty x5_6 x36_3).extract 0 3).toList = ([108,105,109] : List UInt8)
              ·rw [if_pos c39] at H
               have c39b0 : (((rdOf ByteArray.empty x5_6 x36_3).extract 0 3).toList == ([108,105,109] : List UInt8)) = true:=beq_iff_eq.mpr c39
               have c39b1 : (((rdOf ByteArray.empty x5_6 x36_3).extract 0 3).toList != ([108,105,109] : List UInt8)) = false:=bne_eq_false_iff_eq.mpr c39
               clear c39
               by_cases c40 : 0 < (t234.length : Int)
               ·rw [if_pos c40] at H
                have c40b0 : decide (0 < (t234.length : Int)) = true:=decide_eq_true c40
                have c40b1 : decide (0 < t234.length) = true:=decide_eq_true (by omega)
                clear c40
                by_cases c41 : 1 < (t234.length : Int)
                ·rw [if_pos c41] at H
                 have c41b0 : decide (1 < (t234.length : Int)) = true:=decide_eq_true c41
                 have c41b1 : decide (1 < t234.length) = true:=decide_eq_true (by omega)
                 clear c41
                 by_cases c42 : 2 < (t234.length : Int)
                 ·rw [if_pos c42] at H
                  have c42b0 : decide (2 < (t234.length : Int)) = true:=decide_eq_true c42
                  have c42b1 : decide (2 < t234.length) = true:=decide_eq_true (by omega)
                  clear c42
                  by_cases c43 : x221001_3.length < 5864062014805
                  ·rw [if_pos c43] at H
                   have LMc43:=Am c43
                   clear c43
                   obtain ⟨y242,hy242⟩ : ∃ y_ : List (S75),y_ = (x221001_3 ++ [(⟨rd t234 0,rd t234 1,rd t234 2⟩ : S75)]):=⟨_,rfl⟩
                   replace H : (impl_ReadProfile.l0 k3 a0 ji35 x221000_3 y242 x221002_3 x221003_3 x221004_3) = some (r1,r2,r3,r4,r5,r6,r7):=by first|(rw [hy242];with_reducible exact H)|(have H2_:=(Option.bind_some _ _).symm.trans H;rw [hy242];with_reducible exact H2_)|(have H2_:=(Option.bind_some _ _).symm.trans H;with_reducible exact H2_)|with_reducible exact H|(rw [hy242];exact H)|exact H
                   have Ny242:=Am hy242
                   clear hy242
                   have H':=Am H
                   clear H
                   have p233 : 0 ≤ (x36_3 : Int):=of_decide_eq_true (by first|(with_reducible assumption)|assumption)
                   have q233 : x36_3 < (x5_6.length : Int):=of_decide_eq_true (by first|(with_reducible assumption)|assumption)
                   obtain ⟨ad233,e233,hx233_0⟩:=Kd.at_string (Kd.R_reads' HO_34.out).2.2 x36_3 p233 q233
                   cases e233
                   replace p233:=eq_true p233
                   replace q233:=eq_true q233
                   try go_wp2_with (first|((with_reducible refine gate_callee (f:=90) rfl ?_);refine goesL_ (some 44) rfl rfl Try.func90 (by kernel_rfl) rfl #[.string a0,.int .i64 x4_1,.string (rdOf ByteArray.empty x5_6 x36_3)] rfl (by (try simp only [List.map_toArray,List.map_cons,List.map_nil]);first|done|rfl|(simp only [List.length_drop,List.length_take];rfl)) ?_;(with_reducible refine (impl_match.calls k3 a0 x4_1 (rdOf ByteArray.empty x5_6 x36_3) t234 t235 true _ A34.out).mono ?_);rintro e w44 ⟨v237,rfl,ho0,hb⟩;refine ⟨_,rfl,?_⟩;have n0_:=Am (Kd.R_below (by (with_reducible repeat (first|apply Kd.R_alloc|apply Kd.R_drewN|apply Kd.R_drew));exact HO_34.out) hb);have n1_:=Am (Kd.R_below (by (with_reducible repeat (first|apply Kd.R_alloc|apply Kd.R_drewN|apply Kd.R_drew));exact HO_221000.out) hb);have n2_:=Am (Kd.R_below (by (with_reducible repeat (first|apply Kd.R_alloc|apply Kd.R_drewN|apply Kd.R_drew));exact HO_221001.out) hb);have n3_:=Am (Kd.R_lower ho0 (below_size (by repeat (first|(with_reducible first|exact HB.out|apply bA|apply bN|apply bD|refine bS ?_ GE219.out|refine bS ?_ GE220.out)|exact HB.out))));have n4_:=Am (blk_below (g:=gb219) (o:=.cells #[.int .i64 x220000_3,.int .i64 x220001_3,.slice none 0 0,.slice none 0 0,.int .i64 x220004_3,.int .i64 x220005_3,.int .i64 x220006_3] 46 (0,0)) (by (with_reducible repeat (first|refine kN ?_ _|refine kD ?_|refine kA ?_ _));exact BK219.out) hb);have n5_:=Am (blk_below (g:=gb220) (o:=.cells #[u221000,u221001,.int .i64 x221002_3,.int .i64 x221003_3,.int .i64 x221004_3] 31 (0,0)) (by (with_reducible repeat (first|refine kN ?_ _|refine kD ?_|refine kA ?_ _));exact BK220.out) hb);have n6_:=Am (below_step (by repeat (first|(with_reducible first|exact HB.out|apply bA|apply bN|apply bD|refine bS ?_ GE219.out|refine bS ?_ GE220.out)|exact HB.out)) hb);clear HO_34;clear HO_221000;clear HO_221001;clear BK219;clear BK220;clear HB;have HO_34:=n0_;have HO_221000:=n1_;have HO_221001:=n2_;have HO238:=n3_;have BK219:=n4_;have BK220:=n5_;have HB:=n6_;clear n0_ n1_ n2_ n3_ n4_ n5_ n6_;(try clear hb);(try clear hb2);(try clear hk);(try clear hi);(try clear ho0)))
                   have n0_:=Am (Kd.R_drew HO_34.out)
                   have n1_:=Am (Kd.R_drew HO_221000.out)
                   have n2_:=Am (Kd.R_drew HO_221001.out)
                   have n3_:=Am (Kd.R_drew HO238.out)
                   have n4_:=Am (kD BK219.out)
                   have n5_:=Am (kD BK220.out)
                   have n6_:=Am (bD HB.out)
                   clear HO_34
                   clear HO_221000
                   clear HO_221001
                   clear HO238
                   clear BK219
                   clear BK220
                   clear HB
                   have HO_34:=n0_
                   have HO_221000:=n1_
                   have HO_221001:=n2_
                   have HO238:=n3_
                   have BK219:=n4_
                   have BK220:=n5_
                   have HB:=n6_
                   clear n0_ n1_ n2_ n3_ n4_ n5_ n6_
                   obtain ⟨Ao46,co46,eo46⟩:=Kd.R_slice HO238.out
                   (first|subst eo46|(injection eo46 with f1_ f2_ f3_;have f4_:=f1_.symm;have f5_:=f3_.symm;clear f1_ f2_ f3_;subst f4_;subst f5_))
                   have p239 : 0 ≤ (0 : Int):=(by omega)
                   have q239 : 0 < (t234.length : Int):=of_decide_eq_true (by first|(with_reducible assumption)|assumption)
                   obtain ⟨ad239,e239,hx239_0⟩:=Kd.at_int (Kd.R_reads' HO238.out).2.2 0 p239 q239
                   cases e239
                   have qi239 : (0 < t234.length) = True:=eq_true (by omega)
                   (try rw [show ((0 : Int)).toNat = 0 from rfl] at hx239_0)
                   (try rw [Addr.add_zero'] at hx239_0)
                   replace p239:=eq_true p239
                   replace q239:=eq_true q239
                   have p240 : 0 ≤ (1 : Int):=(by omega)
                   have q240 : 1 < (t234.length : Int):=of_decide_eq_true (by first|(with_reducible assumption)|assumption)
                   obtain ⟨ad240,e240,hx240_0⟩:=Kd.at_int (Kd.R_reads' HO238.out).2.2 1 p240 q240
                   obtain rfl : ad239 = ad240:=(by injection e240)
                   (try simp only [show (1 : Int).toNat = 1 from rfl,Nat.reduceMul,Nat.reduceEqDiff,Go.Addr.add,↓reduceIte] at hx240_0)
                   have qi240 : (1 < t234.length) = True:=eq_true (by omega)
                   (try rw [show ((1 : Int)).toNat = 1 from rfl] at hx240_0)
                   replace p240:=eq_true p240
                   replace q240:=eq_true q240
                   have p241 : 0 ≤ (2 : Int):=(by omega)
                   have q241 : 2 < (t234.length : Int):=of_decide_eq_true (by first|(with_reducible assumption)|assumption)
                   obtain ⟨ad241,e241,hx241_0⟩:=Kd.at_int (Kd.R_reads' HO238.out).2.2 2 p241 q241
                   obtain rfl : ad239 = ad241:=(by injection e241)
                   (try simp only [show (2 : Int).toNat = 2 from rfl,Nat.reduceMul,Nat.reduceEqDiff,Go.Addr.add,↓reduceIte] at hx241_0)
                   have qi241 : (2 < t234.length) = True:=eq_true (by omega)
                   (try rw [show ((2 : Int)).toNat = 2 from rfl] at hx241_0)
                   replace p241:=eq_true p241
                   replace q241:=eq_true q241
                   refine start_ (n:=16) (S:=fun w' => w'.cell? ⟨gb220,0,none⟩ = some (u221000)∧w'.cell? ⟨gb220,1,none⟩ = some (u221001)∧w'.cell? ⟨gb220,2,none⟩ = some (.int .i64 x221002_3)∧w'.cell? ⟨gb220,3,none⟩ = some (.int .i64 x221003_3)∧w'.cell? ⟨gb220,4,none⟩ = some (.int .i64 x221004_3)∧w'.cell? ad239 = some (.int .i64 (rd t234 0))∧w'.cell? ⟨ad239.block,ad239.off + 1,none⟩ = some (.int .i64 (rd t234 1))∧w'.cell? ⟨ad239.block,ad239.off + 2,none⟩ = some (.int .i64 (rd t234 2))) (ds:=[13,15]) #[false,false,false,false,false,false,false,false,false,false,false,false,false,false,false,false] (by kernel_rfl) rfl rfl ⟨(kC BK220.out 0).trans rfl,(kC BK220.out 1).trans rfl,(kC BK220.out 2).trans rfl,(kC BK220.out 3).trans rfl,(kC BK220.out 4).trans rfl,hx239_0,hx240_0,hx241_0⟩ (fun hHeld => ?_);refine with_tabW impl_ReadProfile.tab29 impl_ReadProfile.bits29 (fun HT_ HW_ => ?_)
                   generalize w44.drew = w45 at HO_34 HO_221000 HO_221001 HO238 BK219 BK220 HB hx239_0 hx240_0 hx241_0 hHeld ⊢
                   refine pure_ (i:=0) (N:=some 99) (v:=?_) (a':=?_) #[true,false,false,false,false,false,false,false,false,false,false,false,false,false,false,false] rfl rfl (any_of HT_.out (by kernel_rfl)) (fun _ _ _ h => h) (Or.inl ⟨by rfl,?_⟩) ?_ ?_
                   rotate_left
                   ·intro w'
                    go_simp
                    with_reducible rfl
                   rotate_left
                   ·simp only [Act.put,pS]
                    rfl
                   refine pure_ (i:=2) (N:=some 101) (v:=?_) (a':=?_) #[true,false,true,false,false,false,false,false,false,false,false,false,false,false,false,false] rfl rfl (any_of HT_.out (by kernel_rfl)) (fun _ _ _ h => h) (Or.inl ⟨by rfl,?_⟩) ?_ ?_
                   rotate_left
                   ·intro w'
                    go_simp
                    with_reducible rfl
                   rotate_left
                   ·simp only [Act.put,pS]
                    rfl
                   refine pure_ (i:=3) (N:=some 102) (v:=?_) (a':=?_) #[true,false,true,true,false,false,false,false,false,false,false,false,false,false,false,false] rfl rfl (any_of HT_.out (by kernel_rfl)) (fun _ _ _ h => h) (Or.inl ⟨by rfl,?_⟩) ?_ ?_
                   rotate_left
                   ·intro w'
                    go_simp
                    with_reducible rfl
                   rotate_left
                   ·simp only [Act.put,pS]
                    rfl
                   refine pure_ (i:=5) (N:=some 104) (v:=?_) (a':=?_) #[true,false,true,true,false,true,false,false,false,false,false,false,false,false,false,false] rfl rfl (any_of HT_.out (by kernel_rfl)) (fun _ _ _ h => h) (Or.inl ⟨by rfl,?_⟩) ?_ ?_
                   rotate_left
                   ·intro w'
                    go_simp
                    with_reducible rfl
                   rotate_left
                   ·simp only [Act.put,pS]
                    rfl
                   refine pure_ (i:=6) (N:=some 105) (v:=?_) (a':=?_) #[true,false,true,true,false,true,true,false,false,false,false,false,false,false,false,false] rfl rfl (any_of HT_.out (by kernel_rfl)) (fun _ _ _ h => h) (Or.inl ⟨by rfl,?_⟩) ?_ ?_
                   rotate_left
                   ·intro w'
                    go_simp
                    with_reducible rfl
                   rotate_left
                   ·simp only [Act.put,pS]
                    rfl
                   refine pure_ (i:=8) (N:=some 107) (v:=?_) (a':=?_) #[true,false,true,true,false,true,true,false,true,false,false,false,false,false,false,false] rfl rfl (any_of HT_.out (by kernel_rfl)) (fun _ _ _ h => h) (Or.inl ⟨by rfl,?_⟩) ?_ ?_
                   rotate_left
                   ·intro w'
                    go_simp
                    with_reducible rfl
                   rotate_left
                   ·simp only [Act.put,pS]
                    rfl
                   refine pure_ (i:=9) (N:=some 108) (v:=?_) (a':=?_) #[true,false,true,true,false,true,true,false,true,true,false,false,false,false,false,false] rfl rfl (any_of HT_.out (by kernel_rfl)) (fun _ _ _ h => h) (Or.inl ⟨by rfl,?_⟩) ?_ ?_
                   rotate_left
                   ·intro w'
                    go_simp
                    with_reducible rfl
                   rotate_left
                   ·simp only [Act.put,pS]
                    rfl
                   refine take_ (i:=1) (N:=some 100) (v:=?_) (a':=?_) #[true,true,true,true,false,true,true,false,true,true,false,false,false,false,false,false] rfl rfl (take_ofW HT_.out HW_.out (by kernel_rfl)) (fun _ _ _ h => h) (Or.inl ⟨by rfl,?_⟩) hHeld ?_ ?_
                   rotate_left
                   ·rintro w' ⟨s0,s1,s2,s3,s4,s5,s6,s7⟩
                    go_simp
                    with_reducible rfl
                   rotate_left
                   ·simp only [Act.put,pS]
                    rfl
                   refine take_ (i:=4) (N:=some 103) (v:=?_) (a':=?_) #[true,true,true,true,true,true,true,false,true,true,false,false,false,false,false,false] rfl rfl (take_ofW HT_.out HW_.out (by kernel_rfl)) (fun _ _ _ h => h) (Or.inl ⟨by rfl,?_⟩) hHeld ?_ ?_
                   rotate_left
                   ·rintro w' ⟨s0,s1,s2,s3,s4,s5,s6,s7⟩
                    go_simp
                    with_reducible rfl
                   rotate_left
                   ·simp only [Act.put,pS]
                    rfl
                   refine take_ (i:=7) (N:=some 106) (v:=?_) (a':=?_) #[true,true,true,true,true,true,true,true,true,true,false,false,false,false,false,false] rfl rfl (take_ofW HT_.out HW_.out (by kernel_rfl)) (fun _ _ _ h => h) (Or.inl ⟨by rfl,?_⟩) hHeld ?_ ?_
                   rotate_left
                   ·rintro w' ⟨s0,s1,s2,s3,s4,s5,s6,s7⟩
                    go_simp
                    with_reducible rfl
                   rotate_left
                   ·simp only [Act.put,pS]
                    rfl
                   refine take_ (i:=10) (N:=some 109) (v:=?_) (a':=?_) #[true,true,true,true,true,true,true,true,true,true,true,false,false,false,false,false] rfl rfl (take_ofW HT_.out HW_.out (by kernel_rfl)) (fun _ _ _ h => h) (Or.inl ⟨by rfl,?_⟩) hHeld ?_ ?_
                   rotate_left
                   ·rintro w' ⟨s0,s1,s2,s3,s4,s5,s6,s7⟩
                    go_simp
                    with_reducible rfl
                   rotate_left
                   ·simp only [Act.put,pS]
                    rfl
                   refine pure_ (i:=11) (N:=some 110) (v:=?_) (a':=?_) #[true,true,true,true,true,true,true,true,true,true,true,true,false,false,false,false] rfl rfl (any_of HT_.out (by kernel_rfl)) (fun _ _ _ h => h) (Or.inl ⟨by rfl,?_⟩) ?_ ?_
                   rotate_left
                   ·intro w'
                    go_simp
                    with_reducible rfl
                   rotate_left
                   ·simp only [Act.put,pS]
                    rfl
                   refine one_ (i:=12) (N:=some 111) #[true,true,true,true,true,true,true,true,true,true,true,true,true,false,false,false] rfl rfl (one_of HT_.out (by kernel_rfl)) (by decide) (fun K hK => ?_)
                   refine value_ (w1:=?_) (v:=?_) (by rfl) rfl ?_ ?_
                   rotate_left 2
                   ·go_simp
                    constructor
                    ·rfl
                    ·rfl
                   refine hK.out _ _ ⟨(kC (kA BK220.out _) 0).trans rfl,(kC (kA BK220.out _) 1).trans rfl,(kC (kA BK220.out _) 2).trans rfl,(kC (kA BK220.out _) 3).trans rfl,(kC (kA BK220.out _) 4).trans rfl,(World.cell?_alloc_lt _ _ _ (World.block_lt_of_cell? _ _ (hHeld.2.2.2.2.2.1))).trans (hHeld.2.2.2.2.2.1),(World.cell?_alloc_lt _ _ _ (World.block_lt_of_cell? _ _ (hHeld.2.2.2.2.2.2.1))).trans (hHeld.2.2.2.2.2.2.1),(World.cell?_alloc_lt _ _ _ (World.block_lt_of_cell? _ _ (hHeld.2.2.2.2.2.2.2))).trans (hHeld.2.2.2.2.2.2.2)⟩ (fun hHeld => ?_)
                   clear hK K
                   refine norm_ (a':=?_) ?_ ?_
                   rotate_left
                   ·show Act.put _ (some 111) _ = _
                    simp only [Act.put,pS]
                    rfl
                   refine last_ (i:=13) (N:=some 112) #[true,true,true,true,true,true,true,true,true,true,true,true,true,true,false,false] rfl rfl (one_of HT_.out (by kernel_rfl)) (by decide) (fun K hK => ?_)
                   refine Kd.R_append_step k75 (w0:=w) w.heap.size (by rfl) (.tmp 100) (.tmp 111) 29 75 (.agg #[(.int .i64 0),(.int .i64 0),(.int .i64 0)]) 24 rfl Try.underlying29 info75 rfl (by decide) (by omega) u221001 x221001_3 (⟨rd t234 0,rd t234 1,rd t234 2⟩ : S75) [.int .i64 (rd t234 0),.int .i64 (rd t234 1),.int .i64 (rd t234 2)] (fun _ => True) (fun _ => False) rfl rfl ?aP (fun _ hk => hk.elim) ?aF ?aO ?aB ?aS ?aL ?_
                   (case aP => exact k75_mkM _ _ _ (⟨rd t234 0,rd t234 1,rd t234 2⟩ : S75))
                   (case aB => exact (by repeat (first|(with_reducible first|exact HB.out|apply bA|apply bN|apply bD|refine bS ?_ GE219.out|refine bS ?_ GE220.out)|exact HB.out)))
                   (case aF => exact (fun _ _ => trivial))
                   (case aO => exact (by (with_reducible repeat (first|apply Kd.R_alloc|apply Kd.R_drewN|apply Kd.R_drew));exact HO_221001.out))
                   (case aS => exact (below_size (by repeat (first|(with_reducible first|exact HB.out|apply bA|apply bN|apply bD|refine bS ?_ GE219.out|refine bS ?_ GE220.out)|exact HB.out))))
                   (case aL => have:=LMc43.out;omega)
                   intro v243 w47 ho hb hg hat
                   rw [← Ny242.out] at ho
                   have n0_:=Am (Kd.R_over' (by (with_reducible repeat (first|apply Kd.R_alloc|apply Kd.R_drewN|apply Kd.R_drew));exact HO_34.out) (Kd.R_typed (by (with_reducible repeat (first|apply Kd.R_alloc|apply Kd.R_drewN|apply Kd.R_drew));exact HO_221001.out)) (by decide) hg)
                   have n1_:=Am (Kd.R_over' (by (with_reducible repeat (first|apply Kd.R_alloc|apply Kd.R_drewN|apply Kd.R_drew));exact HO_221000.out) (Kd.R_typed (by (with_reducible repeat (first|apply Kd.R_alloc|apply Kd.R_drewN|apply Kd.R_drew));exact HO_221001.out)) (by decide) hg)
                   have n2_:=Am (blk_grown (g:=gb219) (o:=.cells #[.int .i64 x220000_3,.int .i64 x220001_3,.slice none 0 0,.slice none 0 0,.int .i64 x220004_3,.int .i64 x220005_3,.int .i64 x220006_3] 46 (0,0)) (by (with_reducible repeat (first|refine kN ?_ _|refine kD ?_|refine kA ?_ _));exact BK219.out) hg (Kd.R_ne HO_221001.out BK219.out (by decide)))
                   have n3_:=Am (blk_grown (g:=gb220) (o:=.cells #[u221000,u221001,.int .i64 x221002_3,.int .i64 x221003_3,.int .i64 x221004_3] 31 (0,0)) (by (with_reducible repeat (first|refine kN ?_ _|refine kD ?_|refine kA ?_ _));exact BK220.out) hg (Kd.R_ne HO_221001.out BK220.out (by decide)))
                   have n4_:=Am (Kd.R_over' (by (with_reducible repeat (first|apply Kd.R_alloc|apply Kd.R_drewN|apply Kd.R_drew));exact HO238.out) (Kd.R_typed (by (with_reducible repeat (first|apply Kd.R_alloc|apply Kd.R_drewN|apply Kd.R_drew));exact HO_221001.out)) (by decide) hg)
                   have n5_:=Am (hb)
                   have n6_:=Am (ho)
                   clear HO_34
                   clear HO_221000
                   clear BK219
                   clear BK220
                   clear HO238
                   clear HB
                   clear HO_221001
                   have HO_34:=n0_
                   have HO_221000:=n1_
                   have BK219:=n2_
                   have BK220:=n3_
                   have HO238:=n4_
                   have HB:=n5_
                   have HO244:=n6_
                   clear n0_ n1_ n2_ n3_ n4_ n5_ n6_
                   clear ho hb hg hat
                   obtain ⟨Ao48,co48,eo48⟩:=Kd.R_slice HO244.out
                   (first|subst eo48|(injection eo48 with f1_ f2_ f3_;have f4_:=f1_.symm;have f5_:=f3_.symm;clear f1_ f2_ f3_;subst f4_;subst f5_))
                   refine hK.out _ _ ?_
                   clear hK K
                   refine norm_ (a':=?_) ?_ ?_
                   rotate_left
                   ·show Act.put _ (some 112) _ = _
                    simp only [Act.put,pS]
                    rfl
                   refine pure_ (i:=14) (N:=some 113) (v:=?_) (a':=?_) #[true,true,true,true,true,true,true,true,true,true,true,true,true,true,true,false] rfl rfl (any_of HT_.out (by kernel_rfl)) (fun _ _ _ h => h) (Or.inl ⟨by rfl,?_⟩) ?_ ?_
                   rotate_left
                   ·intro w'
                    go_simp
                    with_reducible rfl
                   rotate_left
                   ·simp only [Act.put,pS]
                    rfl
                   refine last_ (i:=15) (N:=none) #[true,true,true,true,true,true,true,true,true,true,true,true,true,true,true,true] rfl rfl (one_of HT_.out (by kernel_rfl)) (by decide) (fun K hK => ?_)
                   have hs49 : w47.cell? ⟨gb220,1,none⟩ = some (u221001):=(kC BK220.out 1).trans rfl
                   have hfs49:=kF BK220.out 1
                   have hns49_0:=NB219_220.out
                   have hms49_0:=NB220_219.out
                   refine skip_ (w1:=?_) (by rfl) rfl ?_ ?_
                   rotate_left
                   ·go_simp
                    rfl
                   refine hK.out _ _ ?_
                   clear hK K
                   refine done_ (done_of HT_.out (by kernel_rfl)) ?_
                   try go_wp2
                   go_roundg k3
                   case measure => have:=HK1.out;have:=HJ6.out;have:=HK3.out;omega
                   case rel => exact ⟨(ji35),(x220000_3),(x220001_3),(x220004_3),(x220005_3),(x220006_3),(x221000_3),(y242),(x221002_3),(x221003_3),(x221004_3),(u221000),(.slice Ao48 y242.length co48),(by first|rfl|(simp;done)|(simp only [← hji35] <;> (first|rfl|simp))|(simp [*];done)),H',⟨by have:=HK1.out;have:=HJ6.out;have:=HK3.out;omega⟩,⟨by (with_reducible repeat (first|apply Kd.R_alloc|apply Kd.R_drewN|apply Kd.R_drew));exact Kd.R_mono (Kd.R_far (p:=⟨gb220,1,none⟩) (Kd.R_types HO_221000.out BK220.out (by decide)) (fun _ hk => hk.2) (.slice Ao48 y242.length co48)) (fun _ hk => trivial)⟩,⟨by (with_reducible repeat (first|apply Kd.R_alloc|apply Kd.R_drewN|apply Kd.R_drew));exact Kd.R_mono (Kd.R_far (p:=⟨gb220,1,none⟩) (Kd.R_types HO244.out BK220.out (by decide)) (fun _ hk => hk.2) (.slice Ao48 y242.length co48)) (fun _ hk => trivial)⟩,⟨by (with_reducible repeat (first|refine kN ?_ _|refine kD ?_|refine kA ?_ _));refine blk_far ?_ NB219_220.out _;(with_reducible repeat (first|refine kN ?_ _|refine kD ?_|refine kA ?_ _));exact BK219.out⟩,⟨by (with_reducible repeat (first|refine kN ?_ _|refine kD ?_|refine kA ?_ _));refine blk_put (cs:=#[u221000,u221001,.int .i64 x221002_3,.int .i64 x221003_3,.int .i64 x221004_3]) ?_ 1 _ rfl;(with_reducible repeat (first|refine kN ?_ _|refine kD ?_|refine kA ?_ _));exact BK220.out⟩,⟨by repeat (first|(with_reducible first|exact HB.out|apply bA|apply bN|apply bD|refine bS ?_ GE219.out|refine bS ?_ GE220.out)|exact HB.out)⟩⟩
                  ·rw [if_neg c43] at H
                   exact absurd H (by simp)
                 ·rw [if_neg c42] at H
                  exact absurd H (by simp)
                ·rw [if_neg c41] at H
                 exact absurd H (by simp)
               ·rw [if_neg c40] at H
                exact absurd H (by simp)
              ·rw [if_neg c39] at H
               have c39b0 : (((rdOf ByteArray.empty x5_6 x36_3).extract 0 3).toList == ([108,105,109] : List UInt8)) = false:=beq_eq_false_iff_ne.mpr c39
               have c39b1 : (((rdOf ByteArray.empty x5_6 x36_3).extract 0 3).toList != ([108,105,109] : List UInt8)) = true:=bne_iff_ne.mpr c39
               by_cases c50 : 3 < ((rdOf ByteArray.empty x5_6 x36_3).size : Int)
               ·rw [if_pos c50] at H
                have c50b0 : decide (3 < ((rdOf ByteArray.empty x5_6 x36_3).size : Int)) = true:=decide_eq_true c50
                have c50b1 : decide (3 < (rdOf ByteArray.empty x5_6 x36_3).size) = true:=decide_eq_true (by omega)
                clear c50
                by_cases c52 : (bt (rdOf ByteArray.empty x5_6 x36_3) 3) = 99
                ·rw [if_pos c52] at H
                 have c52b0 : ((bt (rdOf ByteArray.empty x5_6 x36_3) 3) == 99) = true:=beq_iff_eq.mpr c52
                 have c52b1 : ((bt (rdOf ByteArray.empty x5_6 x36_3) 3) != 99) = false:=bne_eq_false_iff_eq.mpr c52
                 clear c52
                 by_cases c53 : 0 < (t234.length : Int)
                 ·rw [if_pos c53] at H
                  have c53b0 : decide (0 < (t234.length : Int)) = true:=decide_eq_true c53
                  have c53b1 : decide (0 < t234.length) = true:=decide_eq_true (by omega)
                  clear c53
                  by_cases c54 : 1 < (t234.length : Int)
                  ·rw [if_pos c54] at H
                   have c54b0 : decide (1 < (t234.length : Int)) = true:=decide_eq_true c54
                   have c54b1 : decide (1 < t234.length) = true:=decide_eq_true (by omega)
                   clear c54
                   by_cases c55 : x221000_3.length < 8796093022208
                   ·rw [if_pos c55] at H
                    have LMc55:=Am c55
                    clear c55
                    obtain ⟨y247,hy247⟩ : ∃ y_ : List (S71),y_ = (x221000_3 ++ [(⟨rd t234 0,rd t234 1⟩ : S71)]):=⟨_,rfl⟩
                    replace H : (impl_ReadProfile.l0 k3 a0 ji35 y247 x221001_3 x221002_3 x221003_3 x221004_3) = some (r1,r2,r3,r4,r5,r6,r7):=by first|(rw [hy247];with_reducible exact H)|(have H2_:=(Option.bind_some _ _).symm.trans H;rw [hy247];with_reducible exact H2_)|(have H2_:=(Option.bind_some _ _).symm.trans H;with_reducible exact H2_)|with_reducible exact H|(rw [hy247];exact H)|exact H
                    have Ny247:=Am hy247
                    clear hy247
                    have H':=Am H
                    clear H
                    have p233 : 0 ≤ (x36_3 : Int):=of_decide_eq_true (by first|(with_reducible assumption)|assumption)
                    have q233 : x36_3 < (x5_6.length : Int):=of_decide_eq_true (by first|(with_reducible assumption)|assumption)
                    obtain ⟨ad233,e233,hx233_0⟩:=Kd.at_string (Kd.R_reads' HO_34.out).2.2 x36_3 p233 q233
                    cases e233
                    replace p233:=eq_true p233
                    replace q233:=eq_true q233
                    try go_wp2_with (first|((with_reducible refine gate_callee (f:=90) rfl ?_);refine goesL_ (some 44) rfl rfl Try.func90 (by kernel_rfl) rfl #[.string a0,.int .i64 x4_1,.string (rdOf ByteArray.empty x5_6 x36_3)] rfl (by (try simp only [List.map_toArray,List.map_cons,List.map_nil]);first|done|rfl|(simp only [List.length_drop,List.length_take];rfl)) ?_;(with_reducible refine (impl_match.calls k3 a0 x4_1 (rdOf ByteArray.empty x5_6 x36_3) t234 t235 true _ A34.out).mono ?_);rintro e w56 ⟨v237,rfl,ho0,hb⟩;refine ⟨_,rfl,?_⟩;have n0_:=Am (Kd.R_below (by (with_reducible repeat (first|apply Kd.R_alloc|apply Kd.R_drewN|apply Kd.R_drew));exact HO_34.out) hb);have n1_:=Am (Kd.R_below (by (with_reducible repeat (first|apply Kd.R_alloc|apply Kd.R_drewN|apply Kd.R_drew));exact HO_221000.out) hb);have n2_:=Am (Kd.R_below (by (with_reducible repeat (first|apply Kd.R_alloc|apply Kd.R_drewN|apply Kd.R_drew));exact HO_221001.out) hb);have n3_:=Am (Kd.R_lower ho0 (below_size (by repeat (first|(with_reducible first|exact HB.out|apply bA|apply bN|apply bD|refine bS ?_ GE219.out|refine bS ?_ GE220.out)|exact HB.out))));have n4_:=Am (blk_below (g:=gb219) (o:=.cells #[.int .i64 x220000_3,.int .i64 x220001_3,.slice none 0 0,.slice none 0 0,.int .i64 x220004_3,.int .i64 x220005_3,.int .i64 x220006_3] 46 (0,0)) (by (with_reducible repeat (first|refine kN ?_ _|refine kD ?_|refine kA ?_ _));exact BK219.out) hb);have n5_:=Am (blk_below (g:=gb220) (o:=.cells #[u221000,u221001,.int .i64 x221002_3,.int .i64 x221003_3,.int .i64 x221004_3] 31 (0,0)) (by (with_reducible repeat (first|refine kN ?_ _|refine kD ?_|refine kA ?_ _));exact BK220.out) hb);have n6_:=Am (below_step (by repeat (first|(with_reducible first|exact HB.out|apply bA|apply bN|apply bD|refine bS ?_ GE219.out|refine bS ?_ GE220.out)|exact HB.out)) hb);clear HO_34;clear HO_221000;clear HO_221001;clear BK219;clear BK220;clear HB;have HO_34:=n0_;have HO_221000:=n1_;have HO_221001:=n2_;have HO238:=n3_;have BK219:=n4_;have BK220:=n5_;have HB:=n6_;clear n0_ n1_ n2_ n3_ n4_ n5_ n6_;(try clear hb);(try clear hb2);(try clear hk);(try clear hi);(try clear ho0);have p51 : 0 ≤ (3 : Int):=(by omega);have q51 : 3 < (rdOf ByteArray.empty x5_6 x36_3).size:=(by have : (3 : Int) < ((rdOf ByteArray.empty x5_6 x36_3).size : Int):=of_decide_eq_true (by first|(with_reducible assumption)|assumption);omega);have hx51 : ∀ h : 3 < (rdOf ByteArray.empty x5_6 x36_3).size,(((rdOf ByteArray.empty x5_6 x36_3)[3]'h).toNat : Int) = bt (rdOf ByteArray.empty x5_6 x36_3) 3:=bt_at (rdOf ByteArray.empty x5_6 x36_3) 3;clear p51;have qi51 : (3 < ((rdOf ByteArray.empty x5_6 x36_3).size : Int)) = True:=eq_true (of_decide_eq_true (by first|(with_reducible assumption)|assumption));replace q51:=eq_true q51))
                    have n0_:=Am (Kd.R_drew HO_34.out)
                    have n1_:=Am (Kd.R_drew HO_221000.out)
                    have n2_:=Am (Kd.R_drew HO_221001.out)
                    have n3_:=Am (Kd.R_drew HO238.out)
                    have n4_:=Am (kD BK219.out)
                    have n5_:=Am (kD BK220.out)
                    have n6_:=Am (bD HB.out)
                    clear HO_34
                    clear HO_221000
                    clear HO_221001
                    clear HO238
                    clear BK219
                    clear BK220
                    clear HB
                    have HO_34:=n0_
                    have HO_221000:=n1_
                    have HO_221001:=n2_
                    have HO238:=n3_
                    have BK219:=n4_
                    have BK220:=n5_
                    have HB:=n6_
                    clear n0_ n1_ n2_ n3_ n4_ n5_ n6_
                    obtain ⟨Ao58,co58,eo58⟩:=Kd.R_slice HO238.out
                    (first|subst eo58|(injection eo58 with f1_ f2_ f3_;have f4_:=f1_.symm;have f5_:=f3_.symm;clear f1_ f2_ f3_;subst f4_;subst f5_))
                    have p245 : 0 ≤ (0 : Int):=(by omega)
                    have q245 : 0 < (t234.length : Int):=of_decide_eq_true (by first|(with_reducible assumption)|assumption)
                    obtain ⟨ad245,e245,hx245_0⟩:=Kd.at_int (Kd.R_reads' HO238.out).2.2 0 p245 q245
                    cases e245
                    have qi245 : (0 < t234.length) = True:=eq_true (by omega)
                    (try rw [show ((0 : Int)).toNat = 0 from rfl] at hx245_0)
                    (try rw [Addr.add_zero'] at hx245_0)
                    replace p245:=eq_true p245
                    replace q245:=eq_true q245
                    have p246 : 0 ≤ (1 : Int):=(by omega)
                    have q246 : 1 < (t234.length : Int):=of_decide_eq_true (by first|(with_reducible assumption)|assumption)
                    obtain ⟨ad246,e246,hx246_0⟩:=Kd.at_int (Kd.R_reads' HO238.out).2.2 1 p246 q246
                    obtain rfl : ad245 = ad246:=(by injection e246)
                    (try simp only [show (1 : Int).toNat = 1 from rfl,Nat.reduceMul,Nat.reduceEqDiff,Go.Addr.add,↓reduceIte] at hx246_0)
                    have qi246 : (1 < t234.length) = True:=eq_true (by omega)
                    (try rw [show ((1 : Int)).toNat = 1 from rfl] at hx246_0)
                    replace p246:=eq_true p246
                    replace q246:=eq_true q246
                    refine start_ (n:=13) (S:=fun w' => w'.cell? ⟨gb220,0,none⟩ = some (u221000)∧w'.cell? ⟨gb220,1,none⟩ = some (u221001)∧w'.cell? ⟨gb220,2,none⟩ = some (.int .i64 x221002_3)∧w'.cell? ⟨gb220,3,none⟩ = some (.int .i64 x221003_3)∧w'.cell? ⟨gb220,4,none⟩ = some (.int .i64 x221004_3)∧w'.cell? ad245 = some (.int .i64 (rd t234 0))∧w'.cell? ⟨ad245.block,ad245.off + 1,none⟩ = some (.int .i64 (rd t234 1))) (ds:=[10,12]) #[false,false,false,false,false,false,false,false,false,false,false,false,false] (by kernel_rfl) rfl rfl ⟨(kC BK220.out 0).trans rfl,(kC BK220.out 1).trans rfl,(kC BK220.out 2).trans rfl,(kC BK220.out 3).trans rfl,(kC BK220.out 4).trans rfl,hx245_0,hx246_0⟩ (fun hHeld => ?_);refine with_tabW impl_ReadProfile.tab20 impl_ReadProfile.bits20 (fun HT_ HW_ => ?_)
                    generalize w56.drew = w57 at HO_34 HO_221000 HO_221001 HO238 BK219 BK220 HB hx245_0 hx246_0 hHeld ⊢
                    refine pure_ (i:=0) (N:=some 58) (v:=?_) (a':=?_) #[true,false,false,false,false,false,false,false,false,false,false,false,false] rfl rfl (any_of HT_.out (by kernel_rfl)) (fun _ _ _ h => h) (Or.inl ⟨by rfl,?_⟩) ?_ ?_
                    rotate_left
                    ·intro w'
                     go_simp
                     with_reducible rfl
                    rotate_left
                    ·simp only [Act.put,pS]
                     rfl
                    refine pure_ (i:=2) (N:=some 60) (v:=?_) (a':=?_) #[true,false,true,false,false,false,false,false,false,false,false,false,false] rfl rfl (any_of HT_.out (by kernel_rfl)) (fun _ _ _ h => h) (Or.inl ⟨by rfl,?_⟩) ?_ ?_
                    rotate_left
                    ·intro w'
                     go_simp
                     with_reducible rfl
                    rotate_left
                    ·simp only [Act.put,pS]
                     rfl
                    refine pure_ (i:=3) (N:=some 61) (v:=?_) (a':=?_) #[true,false,true,true,false,false,false,false,false,false,false,false,false] rfl rfl (any_of HT_.out (by kernel_rfl)) (fun _ _ _ h => h) (Or.inl ⟨by rfl,?_⟩) ?_ ?_
                    rotate_left
                    ·intro w'
                     go_simp
                     with_reducible rfl
                    rotate_left
                    ·simp only [Act.put,pS]
                     rfl
                    refine pure_ (i:=5) (N:=some 63) (v:=?_) (a':=?_) #[true,false,true,true,false,true,false,false,false,false,false,false,false] rfl rfl (any_of HT_.out (by kernel_rfl)) (fun _ _ _ h => h) (Or.inl ⟨by rfl,?_⟩) ?_ ?_
                    rotate_left
                    ·intro w'
                     go_simp
                     with_reducible rfl
                    rotate_left
                    ·simp only [Act.put,pS]
                     rfl
                    refine pure_ (i:=6) (N:=some 64) (v:=?_) (a':=?_) #[true,false,true,true,false,true,true,false,false,false,false,false,false] rfl rfl (any_of HT_.out (by kernel_rfl)) (fun _ _ _ h => h) (Or.inl ⟨by rfl,?_⟩) ?_ ?_
                    rotate_left
                    ·intro w'
                     go_simp
                     with_reducible rfl
                    rotate_left
                    ·simp only [Act.put,pS]
                     rfl
                    refine take_ (i:=1) (N:=some 59) (v:=?_) (a':=?_) #[true,true,true,true,false,true,true,false,false,false,false,false,false] rfl rfl (take_ofW HT_.out HW_.out (by kernel_rfl)) (fun _ _ _ h => h) (Or.inl ⟨by rfl,?_⟩) hHeld ?_ ?_
                    rotate_left
                    ·rintro w' ⟨s0,s1,s2,s3,s4,s5,s6⟩
                     go_simp
                     with_reducible rfl
                    rotate_left
                    ·simp only [Act.put,pS]
                     rfl
                    refine take_ (i:=4) (N:=some 62) (v:=?_) (a':=?_) #[true,true,true,true,true,true,true,false,false,false,false,false,false] rfl rfl (take_ofW HT_.out HW_.out (by kernel_rfl)) (fun _ _ _ h => h) (Or.inl ⟨by rfl,?_⟩) hHeld ?_ ?_
                    rotate_left
                    ·rintro w' ⟨s0,s1,s2,s3,s4,s5,s6⟩
                     go_simp
                     with_reducible rfl
                    rotate_left
                    ·simp only [Act.put,pS]
                     rfl
                    refine take_ (i:=7) (N:=some 65) (v:=?_) (a':=?_) #[true,true,true,true,true,true,true,true,false,false,false,false,false] rfl rfl (take_ofW HT_.out HW_.out (by kernel_rfl)) (fun _ _ _ h => h) (Or.inl ⟨by rfl,?_⟩) hHeld ?_ ?_
                    rotate_left
                    ·rintro w' ⟨s0,s1,s2,s3,s4,s5,s6⟩
                     go_simp
                     with_reducible rfl
                    rotate_left
                    ·simp only [Act.put,pS]
                     rfl
                    refine pure_ (i:=8) (N:=some 66) (v:=?_) (a':=?_) #[true,true,true,true,true,true,true,true,true,false,false,false,false] rfl rfl (any_of HT_.out (by kernel_rfl)) (fun _ _ _ h => h) (Or.inl ⟨by rfl,?_⟩) ?_ ?_
                    rotate_left
                    ·intro w'
                     go_simp
                     with_reducible rfl
                    rotate_left
                    ·simp only [Act.put,pS]
                     rfl
                    refine one_ (i:=9) (N:=some 67) #[true,true,true,true,true,true,true,true,true,true,false,false,false] rfl rfl (one_of HT_.out (by kernel_rfl)) (by decide) (fun K hK => ?_)
                    refine value_ (w1:=?_) (v:=?_) (by rfl) rfl ?_ ?_
                    rotate_left 2
                    ·go_simp
                     constructor
                     ·rfl
                     ·rfl
                    refine hK.out _ _ ⟨(kC (kA BK220.out _) 0).trans rfl,(kC (kA BK220.out _) 1).trans rfl,(kC (kA BK220.out _) 2).trans rfl,(kC (kA BK220.out _) 3).trans rfl,(kC (kA BK220.out _) 4).trans rfl,(World.cell?_alloc_lt _ _ _ (World.block_lt_of_cell? _ _ (hHeld.2.2.2.2.2.1))).trans (hHeld.2.2.2.2.2.1),(World.cell?_alloc_lt _ _ _ (World.block_lt_of_cell? _ _ (hHeld.2.2.2.2.2.2))).trans (hHeld.2.2.2.2.2.2)⟩ (fun hHeld => ?_)
                    clear hK K
                    refine norm_ (a':=?_) ?_ ?_
                    rotate_left
                    ·show Act.put _ (some 67) _ = _
                     simp only [Act.put,pS]
                     rfl
                    refine last_ (i:=10) (N:=some 68) #[true,true,true,true,true,true,true,true,true,true,true,false,false] rfl rfl (one_of HT_.out (by kernel_rfl)) (by decide) (fun K hK => ?_)
                    refine Kd.R_append_step k71 (w0:=w) w.heap.size (by rfl) (.tmp 59) (.tmp 67) 28 71 (.agg #[(.int .i64 0),(.int .i64 0)]) 16 rfl Try.underlying28 info71 rfl (by decide) (by omega) u221000 x221000_3 (⟨rd t234 0,rd t234 1⟩ : S71) [.int .i64 (rd t234 0),.int .i64 (rd t234 1)] (fun _ => True) (fun _ => False) rfl rfl ?aP (fun _ hk => hk.elim) ?aF ?aO ?aB ?aS ?aL ?_
                    (case aP => exact k71_mkM _ _ _ (⟨rd t234 0,rd t234 1⟩ : S71))
                    (case aB => exact (by repeat (first|(with_reducible first|exact HB.out|apply bA|apply bN|apply bD|refine bS ?_ GE219.out|refine bS ?_ GE220.out)|exact HB.out)))
                    (case aF => exact (fun _ _ => trivial))
                    (case aO => exact (by (with_reducible repeat (first|apply Kd.R_alloc|apply Kd.R_drewN|apply Kd.R_drew));exact HO_221000.out))
                    (case aS => exact (below_size (by repeat (first|(with_reducible first|exact HB.out|apply bA|apply bN|apply bD|refine bS ?_ GE219.out|refine bS ?_ GE220.out)|exact HB.out))))
                    (case aL => have:=LMc55.out;omega)
                    intro v248 w59 ho hb hg hat
                    rw [← Ny247.out] at ho
                    have n0_:=Am (Kd.R_over' (by (with_reducible repeat (first|apply Kd.R_alloc|apply Kd.R_drewN|apply Kd.R_drew));exact HO_34.out) (Kd.R_typed (by (with_reducible repeat (first|apply Kd.R_alloc|apply Kd.R_drewN|apply Kd.R_drew));exact HO_221000.out)) (by decide) hg)
                    have n1_:=Am (Kd.R_over' (by (with_reducible repeat (first|apply Kd.R_alloc|apply Kd.R_drewN|apply Kd.R_drew));exact HO_221001.out) (Kd.R_typed (by (with_reducible repeat (first|apply Kd.R_alloc|apply Kd.R_drewN|apply Kd.R_drew));exact HO_221000.out)) (by decide) hg)
                    have n2_:=Am (blk_grown (g:=gb219) (o:=.cells #[.int .i64 x220000_3,.int .i64 x220001_3,.slice none 0 0,.slice none 0 0,.int .i64 x220004_3,.int .i64 x220005_3,.int .i64 x220006_3] 46 (0,0)) (by (with_reducible repeat (first|refine kN ?_ _|refine kD ?_|refine kA ?_ _));exact BK219.out) hg (Kd.R_ne HO_221000.out BK219.out (by decide)))
                    have n3_:=Am (blk_grown (g:=gb220) (o:=.cells #[u221000,u221001,.int .i64 x221002_3,.int .i64 x221003_3,.int .i64 x221004_3] 31 (0,0)) (by (with_reducible repeat (first|refine kN ?_ _|refine kD ?_|refine kA ?_ _));exact BK220.out) hg (Kd.R_ne HO_221000.out BK220.out (by decide)))
                    have n4_:=Am (Kd.R_over' (by (with_reducible repeat (first|apply Kd.R_alloc|apply Kd.R_drewN|apply Kd.R_drew));exact HO238.out) (Kd.R_typed (by (with_reducible repeat (first|apply Kd.R_alloc|apply Kd.R_drewN|apply Kd.R_drew));exact HO_221000.out)) (by decide) hg)
                    have n5_:=Am (hb)
                    have n6_:=Am (ho)
                    clear HO_34
                    clear HO_221001
                    clear BK219
                    clear BK220
                    clear HO238
                    clear HB
                    clear HO_221000
                    have HO_34:=n0_
                    have HO_221001:=n1_
                    have BK219:=n2_
                    have BK220:=n3_
                    have HO238:=n4_
                    have HB:=n5_
                    have HO249:=n6_
                    clear n0_ n1_ n2_ n3_ n4_ n5_ n6_
                    clear ho hb hg hat
                    obtain ⟨Ao60,co60,eo60⟩:=Kd.R_slice HO249.out
                    (first|subst eo60|(injection eo60 with f1_ f2_ f3_;have f4_:=f1_.symm;have f5_:=f3_.symm;clear f1_ f2_ f3_;subst f4_;subst f5_))
                    refine hK.out _ _ ?_
                    clear hK K
                    refine norm_ (a':=?_) ?_ ?_
                    rotate_left
                    ·show Act.put _ (some 68) _ = _
                     simp only [Act.put,pS]
                     rfl
                    refine pure_ (i:=11) (N:=some 69) (v:=?_) (a':=?_) #[true,true,true,true,true,true,true,true,true,true,true,true,false] rfl rfl (any_of HT_.out (by kernel_rfl)) (fun _ _ _ h => h) (Or.inl ⟨by rfl,?_⟩) ?_ ?_
                    rotate_left
                    ·intro w'
                     go_simp
                     with_reducible rfl
                    rotate_left
                    ·simp only [Act.put,pS]
                     rfl
                    refine last_ (i:=12) (N:=none) #[true,true,true,true,true,true,true,true,true,true,true,true,true] rfl rfl (one_of HT_.out (by kernel_rfl)) (by decide) (fun K hK => ?_)
                    have hs61 : w59.cell? ⟨gb220,0,none⟩ = some (u221000):=(kC BK220.out 0).trans rfl
                    have hfs61:=kF BK220.out 0
                    have hns61_0:=NB219_220.out
                    have hms61_0:=NB220_219.out
                    refine skip_ (w1:=?_) (by rfl) rfl ?_ ?_
                    rotate_left
                    ·go_simp
                     rfl
                    refine hK.out _ _ ?_
                    clear hK K
                    refine done_ (done_of HT_.out (by kernel_rfl)) ?_
                    try go_wp2
                    go_roundg k3
                    case measure => have:=HK1.out;have:=HJ6.out;have:=HK3.out;omega
                    case rel => exact ⟨(ji35),(x220000_3),(x220001_3),(x220004_3),(x220005_3),(x220006_3),(y247),(x221001_3),(x221002_3),(x221003_3),(x221004_3),(.slice Ao60 y247.length co60),(u221001),(by first|rfl|(simp;done)|(simp only [← hji35] <;> (first|rfl|simp))|(simp [*];done)),H',⟨by have:=HK1.out;have:=HJ6.out;have:=HK3.out;omega⟩,⟨by (with_reducible repeat (first|apply Kd.R_alloc|apply Kd.R_drewN|apply Kd.R_drew));exact Kd.R_mono (Kd.R_far (p:=⟨gb220,0,none⟩) (Kd.R_types HO249.out BK220.out (by decide)) (fun _ hk => hk.2) (.slice Ao60 y247.length co60)) (fun _ hk => trivial)⟩,⟨by (with_reducible repeat (first|apply Kd.R_alloc|apply Kd.R_drewN|apply Kd.R_drew));exact Kd.R_mono (Kd.R_far (p:=⟨gb220,0,none⟩) (Kd.R_types HO_221001.out BK220.out (by decide)) (fun _ hk => hk.2) (.slice Ao60 y247.length co60)) (fun _ hk => trivial)⟩,⟨by (with_reducible repeat (first|refine kN ?_ _|refine kD ?_|refine kA ?_ _));refine blk_far ?_ NB219_220.out _;(with_reducible repeat (first|refine kN ?_ _|refine kD ?_|refine kA ?_ _));exact BK219.out⟩,⟨by (with_reducible repeat (first|refine kN ?_ _|refine kD ?_|refine kA ?_ _));refine blk_put (cs:=#[u221000,u221001,.int .i64 x221002_3,.int .i64 x221003_3,.int .i64 x221004_3]) ?_ 0 _ rfl;(with_reducible repeat (first|refine kN ?_ _|refine kD ?_|refine kA ?_ _));exact BK220.out⟩,⟨by repeat (first|(with_reducible first|exact HB.out|apply bA|apply bN|apply bD|refine bS ?_ GE219.out|refine bS ?_ GE220.out)|exact HB.out)⟩⟩
                   ·rw [if_neg c55] at H
                    exact absurd H (by simp)
                  ·rw [if_neg c54] at H
                   exact absurd H (by simp)
                 ·rw [if_neg c53] at H
                  exact absurd H (by simp)
                ·rw [if_neg c52] at H
                 have c52b0 : ((bt (rdOf ByteArray.empty x5_6 x36_3) 3) == 99) = false:=beq_eq_false_iff_ne.mpr c52
                 have c52b1 : ((bt (rdOf ByteArray.empty x5_6 x36_3) 3) != 99) = true:=bne_iff_ne.mpr c52
                 by_cases c62 : 0 < (t234.length : Int)
                 ·rw [if_pos c62] at H
                  have c62b0 : decide (0 < (t234.length : Int)) = true:=decide_eq_true c62
                  have c62b1 : decide (0 < t234.length) = true:=decide_eq_true (by omega)
                  clear c62
                  by_cases c63 : 1 < (t234.length : Int)
                  ·rw [if_pos c63] at H
                   have c63b0 : decide (1 < (t234.length : Int)) = true:=decide_eq_true c63
                   have c63b1 : decide (1 < t234.length) = true:=decide_eq_true (by omega)
                   clear c63
                   by_cases c64 : 2 < (t234.length : Int)
                   ·rw [if_pos c64] at H
                    have c64b0 : decide (2 < (t234.length : Int)) = true:=decide_eq_true c64
                    have c64b1 : decide (2 < t234.length) = true:=decide_eq_true (by omega)
                    clear c64
                    by_cases c65 : t235 < (a0.size : Int)
                    ·rw [if_pos c65] at H
                     have c65b0 : decide (t235 < (a0.size : Int)) = true:=decide_eq_true c65
                     clear c65
                     simp only [Option.some.injEq,Prod.mk.injEq] at H
                     obtain ⟨rfl,rfl,rfl,rfl,rfl,rfl,rfl⟩:=H
                     have p233 : 0 ≤ (x36_3 : Int):=of_decide_eq_true (by first|(with_reducible assumption)|assumption)
                     have q233 : x36_3 < (x5_6.length : Int):=of_decide_eq_true (by first|(with_reducible assumption)|assumption)
                     obtain ⟨ad233,e233,hx233_0⟩:=Kd.at_string (Kd.R_reads' HO_34.out).2.2 x36_3 p233 q233
                     cases e233
                     replace p233:=eq_true p233
                     replace q233:=eq_true q233
                     try go_wp2_with (first|((with_reducible refine gate_callee (f:=90) rfl ?_);refine goesL_ (some 44) rfl rfl Try.func90 (by kernel_rfl) rfl #[.string a0,.int .i64 x4_1,.string (rdOf ByteArray.empty x5_6 x36_3)] rfl (by (try simp only [List.map_toArray,List.map_cons,List.map_nil]);first|done|rfl|(simp only [List.length_drop,List.length_take];rfl)) ?_;(with_reducible refine (impl_match.calls k3 a0 x4_1 (rdOf ByteArray.empty x5_6 x36_3) t234 t235 true _ A34.out).mono ?_);rintro e w66 ⟨v237,rfl,ho0,hb⟩;refine ⟨_,rfl,?_⟩;have n0_:=Am (Kd.R_below (by (with_reducible repeat (first|apply Kd.R_alloc|apply Kd.R_drewN|apply Kd.R_drew));exact HO_34.out) hb);have n1_:=Am (Kd.R_below (by (with_reducible repeat (first|apply Kd.R_alloc|apply Kd.R_drewN|apply Kd.R_drew));exact HO_221000.out) hb);have n2_:=Am (Kd.R_below (by (with_reducible repeat (first|apply Kd.R_alloc|apply Kd.R_drewN|apply Kd.R_drew));exact HO_221001.out) hb);have n3_:=Am (Kd.R_lower ho0 (below_size (by repeat (first|(with_reducible first|exact HB.out|apply bA|apply bN|apply bD|refine bS ?_ GE219.out|refine bS ?_ GE220.out)|exact HB.out))));have n4_:=Am (blk_below (g:=gb219) (o:=.cells #[.int .i64 x220000_3,.int .i64 x220001_3,.slice none 0 0,.slice none 0 0,.int .i64 x220004_3,.int .i64 x220005_3,.int .i64 x220006_3] 46 (0,0)) (by (with_reducible repeat (first|refine kN ?_ _|refine kD ?_|refine kA ?_ _));exact BK219.out) hb);have n5_:=Am (blk_below (g:=gb220) (o:=.cells #[u221000,u221001,.int .i64 x221002_3,.int .i64 x221003_3,.int .i64 x221004_3] 31 (0,0)) (by (with_reducible repeat (first|refine kN ?_ _|refine kD ?_|refine kA ?_ _));exact BK220.out) hb);have n6_:=Am (below_step (by repeat (first|(with_reducible first|exact HB.out|apply bA|apply bN|apply bD|refine bS ?_ GE219.out|refine bS ?_ GE220.out)|exact HB.out)) hb);clear HO_34;clear HO_221000;clear HO_221001;clear BK219;clear BK220;clear HB;have HO_34:=n0_;have HO_221000:=n1_;have HO_221001:=n2_;have HO238:=n3_;have BK219:=n4_;have BK220:=n5_;have HB:=n6_;clear n0_ n1_ n2_ n3_ n4_ n5_ n6_;(try clear hb);(try clear hb2);(try clear hk);(try clear hi);(try clear ho0);have p51 : 0 ≤ (3 : Int):=(by omega);have q51 : 3 < (rdOf ByteArray.empty x5_6 x36_3).size:=(by have : (3 : Int) < ((rdOf ByteArray.empty x5_6 x36_3).size : Int):=of_decide_eq_true (by first|(with_reducible assumption)|assumption);omega);have hx51 : ∀ h : 3 < (rdOf ByteArray.empty x5_6 x36_3).size,(((rdOf ByteArray.empty x5_6 x36_3)[3]'h).toNat : Int) = bt (rdOf ByteArray.empty x5_6 x36_3) 3:=bt_at (rdOf ByteArray.empty x5_6 x36_3) 3;clear p51;have qi51 : (3 < ((rdOf ByteArray.empty x5_6 x36_3).size : Int)) = True:=eq_true (of_decide_eq_true (by first|(with_reducible assumption)|assumption));replace q51:=eq_true q51))
                     have n0_:=Am (Kd.R_drew HO_34.out)
                     have n1_:=Am (Kd.R_drew HO_221000.out)
                     have n2_:=Am (Kd.R_drew HO_221001.out)
                     have n3_:=Am (Kd.R_drew HO238.out)
                     have n4_:=Am (kD BK219.out)
                     have n5_:=Am (kD BK220.out)
                     have n6_:=Am (bD HB.out)
                     clear HO_34
                     clear HO_221000
                     clear HO_221001
                     clear HO238
                     clear BK219
                     clear BK220
                     clear HB
                     have HO_34:=n0_
                     have HO_221000:=n1_
                     have HO_221001:=n2_
                     have HO238:=n3_
                     have BK219:=n4_
                     have BK220:=n5_
                     have HB:=n6_
                     clear n0_ n1_ n2_ n3_ n4_ n5_ n6_
                     obtain ⟨Ao68,co68,eo68⟩:=Kd.R_slice HO238.out
                     (first|subst eo68|(injection eo68 with f1_ f2_ f3_;have f4_:=f1_.symm;have f5_:=f3_.symm;clear f1_ f2_ f3_;subst f4_;subst f5_))
                     have p250 : 0 ≤ (0 : Int):=(by omega)
                     have q250 : 0 < (t234.length : Int):=of_decide_eq_true (by first|(with_reducible assumption)|assumption)
                     obtain ⟨ad250,e250,hx250_0⟩:=Kd.at_int (Kd.R_reads' HO238.out).2.2 0 p250 q250
                     cases e250
                     have qi250 : (0 < t234.length) = True:=eq_true (by omega)
                     (try rw [show ((0 : Int)).toNat = 0 from rfl] at hx250_0)
                     (try rw [Addr.add_zero'] at hx250_0)
                     replace p250:=eq_true p250
                     replace q250:=eq_true q250
                     have p251 : 0 ≤ (1 : Int):=(by omega)
                     have q251 : 1 < (t234.length : Int):=of_decide_eq_true (by first|(with_reducible assumption)|assumption)
                     obtain ⟨ad251,e251,hx251_0⟩:=Kd.at_int (Kd.R_reads' HO238.out).2.2 1 p251 q251
                     obtain rfl : ad250 = ad251:=(by injection e251)
                     (try simp only [show (1 : Int).toNat = 1 from rfl,Nat.reduceMul,Nat.reduceEqDiff,Go.Addr.add,↓reduceIte] at hx251_0)
                     have qi251 : (1 < t234.length) = True:=eq_true (by omega)
                     (try rw [show ((1 : Int)).toNat = 1 from rfl] at hx251_0)
                     replace p251:=eq_true p251
                     replace q251:=eq_true q251
                     have p252 : 0 ≤ (2 : Int):=(by omega)
                     have q252 : 2 < (t234.length : Int):=of_decide_eq_true (by first|(with_reducible assumption)|assumption)
                     obtain ⟨ad252,e252,hx252_0⟩:=Kd.at_int (Kd.R_reads' HO238.out).2.2 2 p252 q252
                     obtain rfl : ad250 = ad252:=(by injection e252)
                     (try simp only [show (2 : Int).toNat = 2 from rfl,Nat.reduceMul,Nat.reduceEqDiff,Go.Addr.add,↓reduceIte] at hx252_0)
                     have qi252 : (2 < t234.length) = True:=eq_true (by omega)
                     (try rw [show ((2 : Int)).toNat = 2 from rfl] at hx252_0)
                     replace p252:=eq_true p252
                     replace q252:=eq_true q252
                     refine start_ (n:=15) (S:=fun w' => w'.cell? ad250 = some (.int .i64 (rd t234 0))∧w'.cell? ⟨ad250.block,ad250.off + 1,none⟩ = some (.int .i64 (rd t234 1))∧w'.cell? ⟨ad250.block,ad250.off + 2,none⟩ = some (.int .i64 (rd t234 2))) (ds:=[]) #[false,false,false,false,false,false,false,false,false,false,false,false,false,false,false] (by kernel_rfl) rfl rfl ⟨hx250_0,hx251_0,hx252_0⟩ (fun hHeld => ?_);refine with_tabW impl_ReadProfile.tab21 impl_ReadProfile.bits21 (fun HT_ HW_ => ?_)
                     generalize w66.drew = w67 at HO_34 HO_221000 HO_221001 HO238 BK219 BK220 HB hx250_0 hx251_0 hx252_0 hHeld ⊢
                     refine pure_ (i:=0) (N:=some 70) (v:=?_) (a':=?_) #[true,false,false,false,false,false,false,false,false,false,false,false,false,false,false] rfl rfl (any_of HT_.out (by kernel_rfl)) (fun _ _ _ h => h) (Or.inl ⟨by rfl,?_⟩) ?_ ?_
                     rotate_left
                     ·intro w'
                      go_simp
                      with_reducible rfl
                     rotate_left
                     ·simp only [Act.put,pS]
                      rfl
                     refine pure_ (i:=1) (N:=some 71) (v:=?_) (a':=?_) #[true,true,false,false,false,false,false,false,false,false,false,false,false,false,false] rfl rfl (any_of HT_.out (by kernel_rfl)) (fun _ _ _ h => h) (Or.inl ⟨by rfl,?_⟩) ?_ ?_
                     rotate_left
                     ·intro w'
                      go_simp
                      with_reducible rfl
                     rotate_left
                     ·simp only [Act.put,pS]
                      rfl
                     refine pure_ (i:=3) (N:=some 73) (v:=?_) (a':=?_) #[true,true,false,true,false,false,false,false,false,false,false,false,false,false,false] rfl rfl (any_of HT_.out (by kernel_rfl)) (fun _ _ _ h => h) (Or.inl ⟨by rfl,?_⟩) ?_ ?_
                     rotate_left
                     ·intro w'
                      go_simp
                      with_reducible rfl
                     rotate_left
                     ·simp only [Act.put,pS]
                      rfl
                     refine pure_ (i:=4) (N:=some 74) (v:=?_) (a':=?_) #[true,true,false,true,true,false,false,false,false,false,false,false,false,false,false] rfl rfl (any_of HT_.out (by kernel_rfl)) (fun _ _ _ h => h) (Or.inl ⟨by rfl,?_⟩) ?_ ?_
                     rotate_left
                     ·intro w'
                      go_simp
                      with_reducible rfl
                     rotate_left
                     ·simp only [Act.put,pS]
                      rfl
                     refine pure_ (i:=6) (N:=some 76) (v:=?_) (a':=?_) #[true,true,false,true,true,false,true,false,false,false,false,false,false,false,false] rfl rfl (any_of HT_.out (by kernel_rfl)) (fun _ _ _ h => h) (Or.inl ⟨by rfl,?_⟩) ?_ ?_
                     rotate_left
                     ·intro w'
                      go_simp
                      with_reducible rfl
                     rotate_left
                     ·simp only [Act.put,pS]
                      rfl
                     refine pure_ (i:=7) (N:=some 77) (v:=?_) (a':=?_) #[true,true,false,true,true,false,true,true,false,false,false,false,false,false,false] rfl rfl (any_of HT_.out (by kernel_rfl)) (fun _ _ _ h => h) (Or.inl ⟨by rfl,?_⟩) ?_ ?_
                     rotate_left
                     ·intro w'
                      go_simp
                      with_reducible rfl
                     rotate_left
                     ·simp only [Act.put,pS]
                      rfl
                     refine take_ (i:=2) (N:=some 72) (v:=?_) (a':=?_) #[true,true,true,true,true,false,true,true,false,false,false,false,false,false,false] rfl rfl (take_ofW HT_.out HW_.out (by kernel_rfl)) (fun _ _ _ h => h) (Or.inl ⟨by rfl,?_⟩) hHeld ?_ ?_
                     rotate_left
                     ·rintro w' ⟨s0,s1,s2⟩
                      go_simp
                      with_reducible rfl
                     rotate_left
                     ·simp only [Act.put,pS]
                      rfl
                     refine pure_ (i:=9) (N:=some 79) (v:=?_) (a':=?_) #[true,true,true,true,true,false,true,true,false,true,false,false,false,false,false] rfl rfl (any_of HT_.out (by kernel_rfl)) (fun _ _ _ h => h) (Or.inl ⟨by rfl,?_⟩) ?_ ?_
                     rotate_left
                     ·intro w'
                      go_simp
                      with_reducible rfl
                     rotate_left
                     ·simp only [Act.put,pS]
                      rfl
                     refine take_ (i:=5) (N:=some 75) (v:=?_) (a':=?_) #[true,true,true,true,true,true,true,true,false,true,false,false,false,false,false] rfl rfl (take_ofW HT_.out HW_.out (by kernel_rfl)) (fun _ _ _ h => h) (Or.inl ⟨by rfl,?_⟩) hHeld ?_ ?_
                     rotate_left
                     ·rintro w' ⟨s0,s1,s2⟩
                      go_simp
                      with_reducible rfl
                     rotate_left
                     ·simp only [Act.put,pS]
                      rfl
                     refine take_ (i:=8) (N:=some 78) (v:=?_) (a':=?_) #[true,true,true,true,true,true,true,true,true,true,false,false,false,false,false] rfl rfl (take_ofW HT_.out HW_.out (by kernel_rfl)) (fun _ _ _ h => h) (Or.inl ⟨by rfl,?_⟩) hHeld ?_ ?_
                     rotate_left
                     ·rintro w' ⟨s0,s1,s2⟩
                      go_simp
                      with_reducible rfl
                     rotate_left
                     ·simp only [Act.put,pS]
                      rfl
                     refine one_ (i:=10) (N:=none) #[true,true,true,true,true,true,true,true,true,true,true,false,false,false,false] rfl rfl (one_of HT_.out (by kernel_rfl)) (by decide) (fun K hK => ?_)
                     have hs69 : w67.cell? ⟨gb220,2,none⟩ = some (.int .i64 x221002_3):=(kC BK220.out 2).trans rfl
                     have hfs69:=kF BK220.out 2
                     have hns69_0:=NB219_220.out
                     have hms69_0:=NB220_219.out
                     refine skip_ (w1:=?_) (by rfl) rfl ?_ ?_
                     rotate_left
                     ·go_simp
                      rfl
                     have hq1_:=Kd.own_blk (Kd.R_ne HO238.out BK220.out (by decide))
                     refine hK.out _ _ ⟨((cell_far (p:=⟨gb220,_,none⟩) (by first|exact hq1_|(dsimp only;exact hq1_)) _).trans (hHeld.1)),((cell_far (p:=⟨gb220,_,none⟩) (by first|exact hq1_|(dsimp only;exact hq1_)) _).trans (hHeld.2.1)),((cell_far (p:=⟨gb220,_,none⟩) (by first|exact hq1_|(dsimp only;exact hq1_)) _).trans (hHeld.2.2))⟩ (fun hHeld => ?_)
                     clear hq1_
                     clear hK K
                     refine pure_ (i:=11) (N:=some 80) (v:=?_) (a':=?_) #[true,true,true,true,true,true,true,true,true,true,true,true,false,false,false] rfl rfl (any_of HT_.out (by kernel_rfl)) (fun _ _ _ h => h) (Or.inl ⟨by rfl,?_⟩) ?_ ?_
                     rotate_left
                     ·intro w'
                      go_simp
                      with_reducible rfl
                     rotate_left
                     ·simp only [Act.put,pS]
                      rfl
                     refine one_ (i:=12) (N:=none) #[true,true,true,true,true,true,true,true,true,true,true,true,true,false,false] rfl rfl (one_of HT_.out (by kernel_rfl)) (by decide) (fun K hK => ?_)
                     have hs70 : w67.cell? ⟨gb220,3,none⟩ = some (.int .i64 x221003_3):=(kC BK220.out 3).trans rfl
                     have hfs70:=kF BK220.out 3
                     have hns70_0:=NB219_220.out
                     have hms70_0:=NB220_219.out
                     refine skip_ (w1:=?_) (by rfl) rfl ?_ ?_
                     rotate_left
                     ·go_simp
                      rfl
                     have hq2_:=Kd.own_blk (Kd.R_ne HO238.out BK220.out (by decide))
                     refine hK.out _ _ ⟨((cell_far (p:=⟨gb220,_,none⟩) (by first|exact hq2_|(dsimp only;exact hq2_)) _).trans (hHeld.1)),((cell_far (p:=⟨gb220,_,none⟩) (by first|exact hq2_|(dsimp only;exact hq2_)) _).trans (hHeld.2.1)),((cell_far (p:=⟨gb220,_,none⟩) (by first|exact hq2_|(dsimp only;exact hq2_)) _).trans (hHeld.2.2))⟩ (fun hHeld => ?_)
                     clear hq2_
                     clear hK K
                     refine pure_ (i:=13) (N:=some 81) (v:=?_) (a':=?_) #[true,true,true,true,true,true,true,true,true,true,true,true,true,true,false] rfl rfl (any_of HT_.out (by kernel_rfl)) (fun _ _ _ h => h) (Or.inl ⟨by rfl,?_⟩) ?_ ?_
                     rotate_left
                     ·intro w'
                      go_simp
                      with_reducible rfl
                     rotate_left
                     ·simp only [Act.put,pS]
                      rfl
                     refine one_ (i:=14) (N:=none) #[true,true,true,true,true,true,true,true,true,true,true,true,true,true,true] rfl rfl (one_of HT_.out (by kernel_rfl)) (by decide) (fun K hK => ?_)
                     have hs71 : w67.cell? ⟨gb220,4,none⟩ = some (.int .i64 x221004_3):=(kC BK220.out 4).trans rfl
                     have hfs71:=kF BK220.out 4
                     have hns71_0:=NB219_220.out
                     have hms71_0:=NB220_219.out
                     refine skip_ (w1:=?_) (by rfl) rfl ?_ ?_
                     rotate_left
                     ·go_simp
                      rfl
                     have hq3_:=Kd.own_blk (Kd.R_ne HO238.out BK220.out (by decide))
                     refine hK.out _ _ ⟨((cell_far (p:=⟨gb220,_,none⟩) (by first|exact hq3_|(dsimp only;exact hq3_)) _).trans (hHeld.1)),((cell_far (p:=⟨gb220,_,none⟩) (by first|exact hq3_|(dsimp only;exact hq3_)) _).trans (hHeld.2.1)),((cell_far (p:=⟨gb220,_,none⟩) (by first|exact hq3_|(dsimp only;exact hq3_)) _).trans (hHeld.2.2))⟩ (fun hHeld => ?_)
                     clear hq3_
                     clear hK K
                     refine done_ (done_of HT_.out (by kernel_rfl)) ?_
                     have hnb72:=NB219_220.out
                     have hnc72:=NB220_219.out
                     have hcz73_0 : w67.cell? ⟨gb219,0,none⟩ = some (.int .i64 x220000_3):=(kC BK219.out 0).trans rfl
                     have hcz73_1 : w67.cell? ⟨gb219,1,none⟩ = some (.int .i64 x220001_3):=(kC BK219.out 1).trans rfl
                     have hcz73_2 : w67.cell? ⟨gb219,2,none⟩ = some (.slice none 0 0):=(kC BK219.out 2).trans rfl
                     have hcz73_3 : w67.cell? ⟨gb219,3,none⟩ = some (.slice none 0 0):=(kC BK219.out 3).trans rfl
                     have hcz73_4 : w67.cell? ⟨gb219,4,none⟩ = some (.int .i64 x220004_3):=(kC BK219.out 4).trans rfl
                     have hcz73_5 : w67.cell? ⟨gb219,5,none⟩ = some (.int .i64 x220005_3):=(kC BK219.out 5).trans rfl
                     have hcz73_6 : w67.cell? ⟨gb219,6,none⟩ = some (.int .i64 x220006_3):=(kC BK219.out 6).trans rfl
                     have hfz73_0:=kF BK219.out 0
                     have hfz73_1:=kF BK219.out 1
                     have hfz73_2:=kF BK219.out 2
                     have hfz73_3:=kF BK219.out 3
                     have hfz73_4:=kF BK219.out 4
                     have hfz73_5:=kF BK219.out 5
                     have hfz73_6:=kF BK219.out 6
                     try go_wp2
                     refine bodyPost_ret (results_cell_row rfl _ _ gb219 46 #[.int .i64 1,.int .i64 t235,.slice none 0 0,.slice none 0 0,.int .i64 0,.int .i64 0,.int .i64 0] (0,0) _ rfl (by (with_reducible repeat (first|refine kN ?_ _|refine kD ?_|refine kA ?_ _));refine blk_put (cs:=#[.int .i64 1,.int .i64 t235,.slice none 0 0,.slice none 0 0,.int .i64 0,.int .i64 0,.int .i64 x220006_3]) ?_ 6 _ rfl;(with_reducible repeat (first|refine kN ?_ _|refine kD ?_|refine kA ?_ _));refine blk_put (cs:=#[.int .i64 1,.int .i64 t235,.slice none 0 0,.slice none 0 0,.int .i64 0,.int .i64 x220005_3,.int .i64 x220006_3]) ?_ 5 _ rfl;(with_reducible repeat (first|refine kN ?_ _|refine kD ?_|refine kA ?_ _));refine blk_put (cs:=#[.int .i64 1,.int .i64 t235,.slice none 0 0,.slice none 0 0,.int .i64 x220004_3,.int .i64 x220005_3,.int .i64 x220006_3]) ?_ 4 _ rfl;(with_reducible repeat (first|refine kN ?_ _|refine kD ?_|refine kA ?_ _));refine blk_put (cs:=#[.int .i64 1,.int .i64 t235,.slice none 0 0,.slice none 0 0,.int .i64 x220004_3,.int .i64 x220005_3,.int .i64 x220006_3]) ?_ 3 _ rfl;(with_reducible repeat (first|refine kN ?_ _|refine kD ?_|refine kA ?_ _));refine blk_put (cs:=#[.int .i64 1,.int .i64 t235,.slice none 0 0,.slice none 0 0,.int .i64 x220004_3,.int .i64 x220005_3,.int .i64 x220006_3]) ?_ 2 _ rfl;(with_reducible repeat (first|refine kN ?_ _|refine kD ?_|refine kA ?_ _));refine blk_put (cs:=#[.int .i64 1,.int .i64 x220001_3,.slice none 0 0,.slice none 0 0,.int .i64 x220004_3,.int .i64 x220005_3,.int .i64 x220006_3]) ?_ 1 _ rfl;(with_reducible repeat (first|refine kN ?_ _|refine kD ?_|refine kA ?_ _));refine blk_put (cs:=#[.int .i64 x220000_3,.int .i64 x220001_3,.slice none 0 0,.slice none 0 0,.int .i64 x220004_3,.int .i64 x220005_3,.int .i64 x220006_3]) ?_ 0 _ rfl;(with_reducible repeat (first|refine kN ?_ _|refine kD ?_|refine kA ?_ _));refine blk_far ?_ NB219_220.out _;(with_reducible repeat (first|refine kN ?_ _|refine kD ?_|refine kA ?_ _));refine blk_far ?_ NB219_220.out _;(with_reducible repeat (first|refine kN ?_ _|refine kD ?_|refine kA ?_ _));refine blk_far ?_ NB219_220.out _;(with_reducible repeat (first|refine kN ?_ _|refine kD ?_|refine kA ?_ _));exact BK219.out) Try.underlying46 rfl (by kernel_rfl)) rfl ?_
                     exact ⟨_,_,by first|rfl|(simp [errW_none,errW_some] <;> rfl)|(simp only [← hji35];first|rfl|(simp [errW_none,errW_some] <;> rfl))|(simp [*,errW_none,errW_some] <;> rfl),by first|exact Kd.R_nil _ _ _ _ _|exact Kd.N_nil _ _ _ _ _|exact Kd.V_nil _ _ _ _ _|exact Kd.Q_nil _ _ _ _ _|exact Kd.S_nil _ _ _ _ _,by first|exact Kd.R_nil _ _ _ _ _|exact Kd.N_nil _ _ _ _ _|exact Kd.V_nil _ _ _ _ _|exact Kd.Q_nil _ _ _ _ _|exact Kd.S_nil _ _ _ _ _,by repeat (first|(with_reducible first|exact HB.out|apply bA|apply bN|apply bD|refine bS ?_ GE219.out|refine bS ?_ GE220.out)|exact HB.out)⟩
                    ·rw [if_neg c65] at H
                     have c65b0 : decide (t235 < (a0.size : Int)) = false:=decide_eq_false c65
                     clear c65
                     replace H:=Option.bind_eq_some_iff.mp H
                     obtain ⟨t253,A740,H⟩:=H
                     replace H : (if t253 = 0 then (some (0,0,x221000_3,x221001_3,rd t234 0,rd t234 1,rd t234 2)) else (some (wrap64 (1 + t253),0,([] : List (S71)),([] : List (S75)),0,0,0))) = some (r1,r2,r3,r4,r5,r6,r7):=H
                     have A74:=Am A740
                     clear A740
                     by_cases c75 : t253 = 0
                     ·rw [if_pos c75] at H
                      have c75b0 : (t253 == 0) = true:=beq_iff_eq.mpr c75
                      have c75b1 : (t253 != 0) = false:=bne_eq_false_iff_eq.mpr c75
                      clear c75
                      simp only [Option.some.injEq,Prod.mk.injEq] at H
                      obtain ⟨rfl,rfl,rfl,rfl,rfl,rfl,rfl⟩:=H
                      have p233 : 0 ≤ (x36_3 : Int):=of_decide_eq_true (by first|(with_reducible assumption)|assumption)
                      have q233 : x36_3 < (x5_6.length : Int):=of_decide_eq_true (by first|(with_reducible assumption)|assumption)
                      obtain ⟨ad233,e233,hx233_0⟩:=Kd.at_string (Kd.R_reads' HO_34.out).2.2 x36_3 p233 q233
                      cases e233
                      replace p233:=eq_true p233
                      replace q233:=eq_true q233
                      try go_wp2_with (first|((with_reducible refine gate_callee (f:=90) rfl ?_);refine goesL_ (some 44) rfl rfl Try.func90 (by kernel_rfl) rfl #[.string a0,.int .i64 x4_1,.string (rdOf ByteArray.empty x5_6 x36_3)] rfl (by (try simp only [List.map_toArray,List.map_cons,List.map_nil]);first|done|rfl|(simp only [List.length_drop,List.length_take];rfl)) ?_;(with_reducible refine (impl_match.calls k3 a0 x4_1 (rdOf ByteArray.empty x5_6 x36_3) t234 t235 true _ A34.out).mono ?_);rintro e w76 ⟨v237,rfl,ho0,hb⟩;refine ⟨_,rfl,?_⟩;have n0_:=Am (Kd.R_below (by (with_reducible repeat (first|apply Kd.R_alloc|apply Kd.R_drewN|apply Kd.R_drew));exact HO_34.out) hb);have n1_:=Am (Kd.R_below (by (with_reducible repeat (first|apply Kd.R_alloc|apply Kd.R_drewN|apply Kd.R_drew));exact HO_221000.out) hb);have n2_:=Am (Kd.R_below (by (with_reducible repeat (first|apply Kd.R_alloc|apply Kd.R_drewN|apply Kd.R_drew));exact HO_221001.out) hb);have n3_:=Am (Kd.R_lower ho0 (below_size (by repeat (first|(with_reducible first|exact HB.out|apply bA|apply bN|apply bD|refine bS ?_ GE219.out|refine bS ?_ GE220.out)|exact HB.out))));have n4_:=Am (blk_below (g:=gb219) (o:=.cells #[.int .i64 x220000_3,.int .i64 x220001_3,.slice none 0 0,.slice none 0 0,.int .i64 x220004_3,.int .i64 x220005_3,.int .i64 x220006_3] 46 (0,0)) (by (with_reducible repeat (first|refine kN ?_ _|refine kD ?_|refine kA ?_ _));exact BK219.out) hb);have n5_:=Am (blk_below (g:=gb220) (o:=.cells #[u221000,u221001,.int .i64 x221002_3,.int .i64 x221003_3,.int .i64 x221004_3] 31 (0,0)) (by (with_reducible repeat (first|refine kN ?_ _|refine kD ?_|refine kA ?_ _));exact BK220.out) hb);have n6_:=Am (below_step (by repeat (first|(with_reducible first|exact HB.out|apply bA|apply bN|apply bD|refine bS ?_ GE219.out|refine bS ?_ GE220.out)|exact HB.out)) hb);clear HO_34;clear HO_221000;clear HO_221001;clear BK219;clear BK220;clear HB;have HO_34:=n0_;have HO_221000:=n1_;have HO_221001:=n2_;have HO238:=n3_;have BK219:=n4_;have BK220:=n5_;have HB:=n6_;clear n0_ n1_ n2_ n3_ n4_ n5_ n6_;(try clear hb);(try clear hb2);(try clear hk);(try clear hi);(try clear ho0);have p51 : 0 ≤ (3 : Int):=(by omega);have q51 : 3 < (rdOf ByteArray.empty x5_6 x36_3).size:=(by have : (3 : Int) < ((rdOf ByteArray.empty x5_6 x36_3).size : Int):=of_decide_eq_true (by first|(with_reducible assumption)|assumption);omega);have hx51 : ∀ h : 3 < (rdOf ByteArray.empty x5_6 x36_3).size,(((rdOf ByteArray.empty x5_6 x36_3)[3]'h).toNat : Int) = bt (rdOf ByteArray.empty x5_6 x36_3) 3:=bt_at (rdOf ByteArray.empty x5_6 x36_3) 3;clear p51;have qi51 : (3 < ((rdOf ByteArray.empty x5_6 x36_3).size : Int)) = True:=eq_true (of_decide_eq_true (by first|(with_reducible assumption)|assumption));replace q51:=eq_true q51))
                      have n0_:=Am (Kd.R_drew HO_34.out)
                      have n1_:=Am (Kd.R_drew HO_221000.out)
                      have n2_:=Am (Kd.R_drew HO_221001.out)
                      have n3_:=Am (Kd.R_drew HO238.out)
                      have n4_:=Am (kD BK219.out)
                      have n5_:=Am (kD BK220.out)
                      have n6_:=Am (bD HB.out)
                      clear HO_34
                      clear HO_221000
                      clear HO_221001
                      clear HO238
                      clear BK219
                      clear BK220
                      clear HB
                      have HO_34:=n0_
                      have HO_221000:=n1_
                      have HO_221001:=n2_
                      have HO238:=n3_
                      have BK219:=n4_
                      have BK220:=n5_
                      have HB:=n6_
                      clear n0_ n1_ n2_ n3_ n4_ n5_ n6_
                      obtain ⟨Ao78,co78,eo78⟩:=Kd.R_slice HO238.out
                      (first|subst eo78|(injection eo78 with f1_ f2_ f3_;have f4_:=f1_.symm;have f5_:=f3_.symm;clear f1_ f2_ f3_;subst f4_;subst f5_))
                      have p250 : 0 ≤ (0 : Int):=(by omega)
                      have q250 : 0 < (t234.length : Int):=of_decide_eq_true (by first|(with_reducible assumption)|assumption)
                      obtain ⟨ad250,e250,hx250_0⟩:=Kd.at_int (Kd.R_reads' HO238.out).2.2 0 p250 q250
                      cases e250
                      have qi250 : (0 < t234.length) = True:=eq_true (by omega)
                      (try rw [show ((0 : Int)).toNat = 0 from rfl] at hx250_0)
                      (try rw [Addr.add_zero'] at hx250_0)
                      replace p250:=eq_true p250
                      replace q250:=eq_true q250
                      have p251 : 0 ≤ (1 : Int):=(by omega)
                      have q251 : 1 < (t234.length : Int):=of_decide_eq_true (by first|(with_reducible assumption)|assumption)
                      obtain ⟨ad251,e251,hx251_0⟩:=Kd.at_int (Kd.R_reads' HO238.out).2.2 1 p251 q251
                      obtain rfl : ad250 = ad251:=(by injection e251)
                      (try simp only [show (1 : Int).toNat = 1 from rfl,Nat.reduceMul,Nat.reduceEqDiff,Go.Addr.add,↓reduceIte] at hx251_0)
                      have qi251 : (1 < t234.length) = True:=eq_true (by omega)
                      (try rw [show ((1 : Int)).toNat = 1 from rfl] at hx251_0)
                      replace p251:=eq_true p251
                      replace q251:=eq_true q251
                      have p252 : 0 ≤ (2 : Int):=(by omega)
                      have q252 : 2 < (t234.length : Int):=of_decide_eq_true (by first|(with_reducible assumption)|assumption)
                      obtain ⟨ad252,e252,hx252_0⟩:=Kd.at_int (Kd.R_reads' HO238.out).2.2 2 p252 q252
                      obtain rfl : ad250 = ad252:=(by injection e252)
                      (try simp only [show (2 : Int).toNat = 2 from rfl,Nat.reduceMul,Nat.reduceEqDiff,Go.Addr.add,↓reduceIte] at hx252_0)
                      have qi252 : (2 < t234.length) = True:=eq_true (by omega)
                      (try rw [show ((2 : Int)).toNat = 2 from rfl] at hx252_0)
                      replace p252:=eq_true p252
                      replace q252:=eq_true q252
                      refine start_ (n:=15) (S:=fun w' => w'.cell? ad250 = some (.int .i64 (rd t234 0))∧w'.cell? ⟨ad250.block,ad250.off + 1,none⟩ = some (.int .i64 (rd t234 1))∧w'.cell? ⟨ad250.block,ad250.off + 2,none⟩ = some (.int .i64 (rd t234 2))) (ds:=[]) #[false,false,false,false,false,false,false,false,false,false,false,false,false,false,false] (by kernel_rfl) rfl rfl ⟨hx250_0,hx251_0,hx252_0⟩ (fun hHeld => ?_);refine with_tabW impl_ReadProfile.tab21 impl_ReadProfile.bits21 (fun HT_ HW_ => ?_)
                      generalize w76.drew = w77 at HO_34 HO_221000 HO_221001 HO238 BK219 BK220 HB hx250_0 hx251_0 hx252_0 hHeld ⊢
                      refine pure_ (i:=0) (N:=some 70) (v:=?_) (a':=?_) #[true,false,false,false,false,false,false,false,false,false,false,false,false,false,false] rfl rfl (any_of HT_.out (by kernel_rfl)) (fun _ _ _ h => h) (Or.inl ⟨by rfl,?_⟩) ?_ ?_
                      rotate_left
                      ·intro w'
                       go_simp
                       with_reducible rfl
                      rotate_left
                      ·simp only [Act.put,pS]
                       rfl
                      refine pure_ (i:=1) (N:=some 71) (v:=?_) (a':=?_) #[true,true,false,false,false,false,false,false,false,false,false,false,false,false,false] rfl rfl (any_of HT_.out (by kernel_rfl)) (fun _ _ _ h => h) (Or.inl ⟨by rfl,?_⟩) ?_ ?_
                      rotate_left
                      ·intro w'
                       go_simp
                       with_reducible rfl
                      rotate_left
                      ·simp only [Act.put,pS]
                       rfl
                      refine pure_ (i:=3) (N:=some 73) (v:=?_) (a':=?_) #[true,true,false,true,false,false,false,false,false,false,false,false,false,false,false] rfl rfl (any_of HT_.out (by kernel_rfl)) (fun _ _ _ h => h) (Or.inl ⟨by rfl,?_⟩) ?_ ?_
                      rotate_left
                      ·intro w'
                       go_simp
                       with_reducible rfl
                      rotate_left
                      ·simp only [Act.put,pS]
                       rfl
                      refine pure_ (i:=4) (N:=some 74) (v:=?_) (a':=?_) #[true,true,false,true,true,false,false,false,false,false,false,false,false,false,false] rfl rfl (any_of HT_.out (by kernel_rfl)) (fun _ _ _ h => h) (Or.inl ⟨by rfl,?_⟩) ?_ ?_
                      rotate_left
                      ·intro w'
                       go_simp
                       with_reducible rfl
                      rotate_left
                      ·simp only [Act.put,pS]
                       rfl
                      refine pure_ (i:=6) (N:=some 76) (v:=?_) (a':=?_) #[true,true,false,true,true,false,true,false,false,false,false,false,false,false,false] rfl rfl (any_of HT_.out (by kernel_rfl)) (fun _ _ _ h => h) (Or.inl ⟨by rfl,?_⟩) ?_ ?_
                      rotate_left
                      ·intro w'
                       go_simp
                       with_reducible rfl
                      rotate_left
                      ·simp only [Act.put,pS]
                       rfl
                      refine pure_ (i:=7) (N:=some 77) (v:=?_) (a':=?_) #[true,true,false,true,true,false,true,true,false,false,false,false,false,false,false] rfl rfl (any_of HT_.out (by kernel_rfl)) (fun _ _ _ h => h) (Or.inl ⟨by rfl,?_⟩) ?_ ?_
                      rotate_left
                      ·intro w'
                       go_simp
                       with_reducible rfl
                      rotate_left
                      ·simp only [Act.put,pS]
                       rfl
                      refine take_ (i:=2) (N:=some 72) (v:=?_) (a':=?_) #[true,true,true,true,true,false,true,true,false,false,false,false,false,false,false] rfl rfl (take_ofW HT_.out HW_.out (by kernel_rfl)) (fun _ _ _ h => h) (Or.inl ⟨by rfl,?_⟩) hHeld ?_ ?_
                      rotate_left
                      ·rintro w' ⟨s0,s1,s2⟩
                       go_simp
                       with_reducible rfl
                      rotate_left
                      ·simp only [Act.put,pS]
                       rfl
                      refine pure_ (i:=9) (N:=some 79) (v:=?_) (a':=?_) #[true,true,true,true,true,false,true,true,false,true,false,false,false,false,false] rfl rfl (any_of HT_.out (by kernel_rfl)) (fun _ _ _ h => h) (Or.inl ⟨by rfl,?_⟩) ?_ ?_
                      rotate_left
                      ·intro w'
                       go_simp
                       with_reducible rfl
                      rotate_left
                      ·simp only [Act.put,pS]
                       rfl
                      refine take_ (i:=5) (N:=some 75) (v:=?_) (a':=?_) #[true,true,true,true,true,true,true,true,false,true,false,false,false,false,false] rfl rfl (take_ofW HT_.out HW_.out (by kernel_rfl)) (fun _ _ _ h => h) (Or.inl ⟨by rfl,?_⟩) hHeld ?_ ?_
                      rotate_left
                      ·rintro w' ⟨s0,s1,s2⟩
                       go_simp
                       with_reducible rfl
                      rotate_left
                      ·simp only [Act.put,pS]
                       rfl
                      refine take_ (i:=8) (N:=some 78) (v:=?_) (a':=?_) #[true,true,true,true,true,true,true,true,true,true,false,false,false,false,false] rfl rfl (take_ofW HT_.out HW_.out (by kernel_rfl)) (fun _ _ _ h => h) (Or.inl ⟨by rfl,?_⟩) hHeld ?_ ?_
                      rotate_left
                      ·rintro w' ⟨s0,s1,s2⟩
                       go_simp
                       with_reducible rfl
                      rotate_left
                      ·simp only [Act.put,pS]
                       rfl
                      refine one_ (i:=10) (N:=none) #[true,true,true,true,true,true,true,true,true,true,true,false,false,false,false] rfl rfl (one_of HT_.out (by kernel_rfl)) (by decide) (fun K hK => ?_)
                      have hs79 : w77.cell? ⟨gb220,2,none⟩ = some (.int .i64 x221002_3):=(kC BK220.out 2).trans rfl
                      have hfs79:=kF BK220.out 2
                      have hns79_0:=NB219_220.out
                      have hms79_0:=NB220_219.out
                      refine skip_ (w1:=?_) (by rfl) rfl ?_ ?_
                      rotate_left
                      ·go_simp
                       rfl
                      have hq4_:=Kd.own_blk (Kd.R_ne HO238.out BK220.out (by decide))
                      refine hK.out _ _ ⟨((cell_far (p:=⟨gb220,_,none⟩) (by first|exact hq4_|(dsimp only;exact hq4_)) _).trans (hHeld.1)),((cell_far (p:=⟨gb220,_,none⟩) (by first|exact hq4_|(dsimp only;exact hq4_)) _).trans (hHeld.2.1)),((cell_far (p:=⟨gb220,_,none⟩) (by first|exact hq4_|(dsimp only;exact hq4_)) _).trans (hHeld.2.2))⟩ (fun hHeld => ?_)
                      clear hq4_
                      clear hK K
                      refine pure_ (i:=11) (N:=some 80) (v:=?_) (a':=?_) #[true,true,true,true,true,true,true,true,true,true,true,true,false,false,false] rfl rfl (any_of HT_.out (by kernel_rfl)) (fun _ _ _ h => h) (Or.inl ⟨by rfl,?_⟩) ?_ ?_
                      rotate_left
                      ·intro w'
                       go_simp
                       with_reducible rfl
                      rotate_left
                      ·simp only [Act.put,pS]
                       rfl
                      refine one_ (i:=12) (N:=none) #[true,true,true,true,true,true,true,true,true,true,true,true,true,false,false] rfl rfl (one_of HT_.out (by kernel_rfl)) (by decide) (fun K hK => ?_)
                      have hs80 : w77.cell? ⟨gb220,3,none⟩ = some (.int .i64 x221003_3):=(kC BK220.out 3).trans rfl
                      have hfs80:=kF BK220.out 3
                      have hns80_0:=NB219_220.out
                      have hms80_0:=NB220_219.out
                      refine skip_ (w1:=?_) (by rfl) rfl ?_ ?_
                      rotate_left
                      ·go_simp
                       rfl
                      have hq5_:=Kd.own_blk (Kd.R_ne HO238.out BK220.out (by decide))
                      refine hK.out _ _ ⟨((cell_far (p:=⟨gb220,_,none⟩) (by first|exact hq5_|(dsimp only;exact hq5_)) _).trans (hHeld.1)),((cell_far (p:=⟨gb220,_,none⟩) (by first|exact hq5_|(dsimp only;exact hq5_)) _).trans (hHeld.2.1)),((cell_far (p:=⟨gb220,_,none⟩) (by first|exact hq5_|(dsimp only;exact hq5_)) _).trans (hHeld.2.2))⟩ (fun hHeld => ?_)
                      clear hq5_
                      clear hK K
                      refine pure_ (i:=13) (N:=some 81) (v:=?_) (a':=?_) #[true,true,true,true,true,true,true,true,true,true,true,true,true,true,false] rfl rfl (any_of HT_.out (by kernel_rfl)) (fun _ _ _ h => h) (Or.inl ⟨by rfl,?_⟩) ?_ ?_
                      rotate_left
                      ·intro w'
                       go_simp
                       with_reducible rfl
                      rotate_left
                      ·simp only [Act.put,pS]
                       rfl
                      refine one_ (i:=14) (N:=none) #[true,true,true,true,true,true,true,true,true,true,true,true,true,true,true] rfl rfl (one_of HT_.out (by kernel_rfl)) (by decide) (fun K hK => ?_)
                      have hs81 : w77.cell? ⟨gb220,4,none⟩ = some (.int .i64 x221004_3):=(kC BK220.out 4).trans rfl
                      have hfs81:=kF BK220.out 4
                      have hns81_0:=NB219_220.out
                      have hms81_0:=NB220_219.out
                      refine skip_ (w1:=?_) (by rfl) rfl ?_ ?_
                      rotate_left
                      ·go_simp
                       rfl
                      have hq6_:=Kd.own_blk (Kd.R_ne HO238.out BK220.out (by decide))
                      refine hK.out _ _ ⟨((cell_far (p:=⟨gb220,_,none⟩) (by first|exact hq6_|(dsimp only;exact hq6_)) _).trans (hHeld.1)),((cell_far (p:=⟨gb220,_,none⟩) (by first|exact hq6_|(dsimp only;exact hq6_)) _).trans (hHeld.2.1)),((cell_far (p:=⟨gb220,_,none⟩) (by first|exact hq6_|(dsimp only;exact hq6_)) _).trans (hHeld.2.2))⟩ (fun hHeld => ?_)
                      clear hq6_
                      clear hK K
                      refine done_ (done_of HT_.out (by kernel_rfl)) ?_
                      have hnb82:=NB220_219.out
                      have hnc82:=NB219_220.out
                      have hcz83_0 : w77.cell? ⟨gb220,0,none⟩ = some (u221000):=(kC BK220.out 0).trans rfl
                      have hcz83_1 : w77.cell? ⟨gb220,1,none⟩ = some (u221001):=(kC BK220.out 1).trans rfl
                      have hcz83_2 : w77.cell? ⟨gb220,2,none⟩ = some (.int .i64 x221002_3):=(kC BK220.out 2).trans rfl
                      have hcz83_3 : w77.cell? ⟨gb220,3,none⟩ = some (.int .i64 x221003_3):=(kC BK220.out 3).trans rfl
                      have hcz83_4 : w77.cell? ⟨gb220,4,none⟩ = some (.int .i64 x221004_3):=(kC BK220.out 4).trans rfl
                      have hfz83_0:=kF BK220.out 0
                      have hfz83_1:=kF BK220.out 1
                      have hfz83_2:=kF BK220.out 2
                      have hfz83_3:=kF BK220.out 3
                      have hfz83_4:=kF BK220.out 4
                      obtain ⟨Ao84,co84,eo84⟩:=Kd.R_slice HO_221000.out
                      subst eo84
                      obtain ⟨Ao85,co85,eo85⟩:=Kd.R_slice HO_221001.out
                      subst eo85
                      try go_wp2_with (first|((with_reducible refine gate_callee (f:=17) rfl ?_);refine goesL_ (some 89) rfl rfl Try.func17 (by kernel_rfl) rfl #[.agg #[.slice Ao84 x221000_3.length co84,.slice Ao85 x221001_3.length co85,.int .i64 (rd t234 0),.int .i64 (rd t234 1),.int .i64 (rd t234 2)]] rfl (by (try simp only [List.map_toArray,List.map_cons,List.map_nil]);first|done|rfl|(simp only [List.length_drop,List.length_take];rfl)) ?_;(with_reducible refine (impl_ProfileOk.calls _ _ x221000_3 _ _ x221001_3 (rd t234 0) (rd t234 1) (rd t234 2) t253 _ ?side1 ?side2 ?side3 ?side4 A74.out).mono ?_);(case side1 => refine (Kd.R_reads' (e:=71) (base:=w.heap.size) (ok:=fun k_ => True) (n:=x221000_3.length) (c:=co84) ?_).2.2;exact (by (with_reducible repeat (first|apply Kd.R_alloc|apply Kd.R_drewN|apply Kd.R_drew));exact (Kd.R_mono (Kd.R_far (p:=⟨gb220,4,none⟩) (Kd.R_far (p:=⟨gb220,3,none⟩) (Kd.R_far (p:=⟨gb220,2,none⟩) (Kd.R_types HO_221000.out BK220.out (by decide)) (fun _ hk => hk.2) (.int .i64 (rd t234 0))) (fun _ hk => hk.2) (.int .i64 (rd t234 1))) (fun _ hk => hk.2) (.int .i64 (rd t234 2))) (fun _ h_ => h_.1))));(case side2 => exact (Kd.R_reads' HO_221000.out).2.1);(case side3 => refine (Kd.R_reads' (e:=75) (base:=w.heap.size) (ok:=fun k_ => True) (n:=x221001_3.length) (c:=co85) ?_).2.2;exact (by (with_reducible repeat (first|apply Kd.R_alloc|apply Kd.R_drewN|apply Kd.R_drew));exact (Kd.R_mono (Kd.R_far (p:=⟨gb220,4,none⟩) (Kd.R_far (p:=⟨gb220,3,none⟩) (Kd.R_far (p:=⟨gb220,2,none⟩) (Kd.R_types HO_221001.out BK220.out (by decide)) (fun _ hk => hk.2) (.int .i64 (rd t234 0))) (fun _ hk => hk.2) (.int .i64 (rd t234 1))) (fun _ hk => hk.2) (.int .i64 (rd t234 2))) (fun _ h_ => h_.1))));(case side4 => exact (Kd.R_reads' HO_221001.out).2.1);rintro e w86 ⟨rfl,hb⟩;refine ⟨_,rfl,?_⟩;have n0_:=Am (Kd.R_below (by (with_reducible repeat (first|apply Kd.R_alloc|apply Kd.R_drewN|apply Kd.R_drew));exact (Kd.R_mono (Kd.R_far (p:=⟨gb220,4,none⟩) (Kd.R_far (p:=⟨gb220,3,none⟩) (Kd.R_far (p:=⟨gb220,2,none⟩) (Kd.R_types HO_34.out BK220.out (by decide)) (fun _ hk => hk.2) (.int .i64 (rd t234 0))) (fun _ hk => hk.2) (.int .i64 (rd t234 1))) (fun _ hk => hk.2) (.int .i64 (rd t234 2))) (fun _ h_ => h_.1))) hb);have n1_:=Am (Kd.R_below (by (with_reducible repeat (first|apply Kd.R_alloc|apply Kd.R_drewN|apply Kd.R_drew));exact (Kd.R_mono (Kd.R_far (p:=⟨gb220,4,none⟩) (Kd.R_far (p:=⟨gb220,3,none⟩) (Kd.R_far (p:=⟨gb220,2,none⟩) (Kd.R_types HO_221000.out BK220.out (by decide)) (fun _ hk => hk.2) (.int .i64 (rd t234 0))) (fun _ hk => hk.2) (.int .i64 (rd t234 1))) (fun _ hk => hk.2) (.int .i64 (rd t234 2))) (fun _ h_ => h_.1))) hb);have n2_:=Am (Kd.R_below (by (with_reducible repeat (first|apply Kd.R_alloc|apply Kd.R_drewN|apply Kd.R_drew));exact (Kd.R_mono (Kd.R_far (p:=⟨gb220,4,none⟩) (Kd.R_far (p:=⟨gb220,3,none⟩) (Kd.R_far (p:=⟨gb220,2,none⟩) (Kd.R_types HO_221001.out BK220.out (by decide)) (fun _ hk => hk.2) (.int .i64 (rd t234 0))) (fun _ hk => hk.2) (.int .i64 (rd t234 1))) (fun _ hk => hk.2) (.int .i64 (rd t234 2))) (fun _ h_ => h_.1))) hb);have n3_:=Am (Kd.R_below (by (with_reducible repeat (first|apply Kd.R_alloc|apply Kd.R_drewN|apply Kd.R_drew));exact (Kd.R_mono (Kd.R_far (p:=⟨gb220,4,none⟩) (Kd.R_far (p:=⟨gb220,3,none⟩) (Kd.R_far (p:=⟨gb220,2,none⟩) (Kd.R_types HO238.out BK220.out (by decide)) (fun _ hk => hk.2) (.int .i64 (rd t234 0))) (fun _ hk => hk.2) (.int .i64 (rd t234 1))) (fun _ hk => hk.2) (.int .i64 (rd t234 2))) (fun _ h_ => h_.1))) hb);have n4_:=Am (blk_below (g:=gb219) (o:=.cells #[.int .i64 x220000_3,.int .i64 x220001_3,.slice none 0 0,.slice none 0 0,.int .i64 x220004_3,.int .i64 x220005_3,.int .i64 x220006_3] 46 (0,0)) (by (with_reducible repeat (first|refine kN ?_ _|refine kD ?_|refine kA ?_ _));refine blk_far ?_ NB219_220.out _;(with_reducible repeat (first|refine kN ?_ _|refine kD ?_|refine kA ?_ _));refine blk_far ?_ NB219_220.out _;(with_reducible repeat (first|refine kN ?_ _|refine kD ?_|refine kA ?_ _));refine blk_far ?_ NB219_220.out _;(with_reducible repeat (first|refine kN ?_ _|refine kD ?_|refine kA ?_ _));exact BK219.out) hb);have n5_:=Am (blk_below (g:=gb220) (o:=.cells #[.slice Ao84 x221000_3.length co84,.slice Ao85 x221001_3.length co85,.int .i64 (rd t234 0),.int .i64 (rd t234 1),.int .i64 (rd t234 2)] 31 (0,0)) (by (with_reducible repeat (first|refine kN ?_ _|refine kD ?_|refine kA ?_ _));refine blk_put (cs:=#[.slice Ao84 x221000_3.length co84,.slice Ao85 x221001_3.length co85,.int .i64 (rd t234 0),.int .i64 (rd t234 1),.int .i64 x221004_3]) ?_ 4 _ rfl;(with_reducible repeat (first|refine kN ?_ _|refine kD ?_|refine kA ?_ _));refine blk_put (cs:=#[.slice Ao84 x221000_3.length co84,.slice Ao85 x221001_3.length co85,.int .i64 (rd t234 0),.int .i64 x221003_3,.int .i64 x221004_3]) ?_ 3 _ rfl;(with_reducible repeat (first|refine kN ?_ _|refine kD ?_|refine kA ?_ _));refine blk_put (cs:=#[.slice Ao84 x221000_3.length co84,.slice Ao85 x221001_3.length co85,.int .i64 x221002_3,.int .i64 x221003_3,.int .i64 x221004_3]) ?_ 2 _ rfl;(with_reducible repeat (first|refine kN ?_ _|refine kD ?_|refine kA ?_ _));exact BK220.out) hb);have n6_:=Am (below_step (by repeat (first|(with_reducible first|exact HB.out|apply bA|apply bN|apply bD|refine bS ?_ GE219.out|refine bS ?_ GE220.out)|exact HB.out)) hb);clear HO_34;clear HO_221000;clear HO_221001;clear HO238;clear BK219;clear BK220;clear HB;have HO_34:=n0_;have HO_221000:=n1_;have HO_221001:=n2_;have HO238:=n3_;have BK219:=n4_;have BK220:=n5_;have HB:=n6_;clear n0_ n1_ n2_ n3_ n4_ n5_ n6_;(try clear hb);(try clear hb2);(try clear hk);(try clear hi);have hcz87_0 : w86.cell? ⟨gb220,0,none⟩ = some (.slice Ao84 x221000_3.length co84):=(kC BK220.out 0).trans rfl;have hcz87_1 : w86.cell? ⟨gb220,1,none⟩ = some (.slice Ao85 x221001_3.length co85):=(kC BK220.out 1).trans rfl;have hcz87_2 : w86.cell? ⟨gb220,2,none⟩ = some (.int .i64 (rd t234 0)):=(kC BK220.out 2).trans rfl;have hcz87_3 : w86.cell? ⟨gb220,3,none⟩ = some (.int .i64 (rd t234 1)):=(kC BK220.out 3).trans rfl;have hcz87_4 : w86.cell? ⟨gb220,4,none⟩ = some (.int .i64 (rd t234 2)):=(kC BK220.out 4).trans rfl;have hfz87_0:=kF BK220.out 0;have hfz87_1:=kF BK220.out 1;have hfz87_2:=kF BK220.out 2;have hfz87_3:=kF BK220.out 3;have hfz87_4:=kF BK220.out 4;have hcz88_0 : w86.cell? ⟨gb219,0,none⟩ = some (.int .i64 x220000_3):=(kC BK219.out 0).trans rfl;have hcz88_1 : w86.cell? ⟨gb219,1,none⟩ = some (.int .i64 x220001_3):=(kC BK219.out 1).trans rfl;have hcz88_2 : w86.cell? ⟨gb219,2,none⟩ = some (.slice none 0 0):=(kC BK219.out 2).trans rfl;have hcz88_3 : w86.cell? ⟨gb219,3,none⟩ = some (.slice none 0 0):=(kC BK219.out 3).trans rfl;have hcz88_4 : w86.cell? ⟨gb219,4,none⟩ = some (.int .i64 x220004_3):=(kC BK219.out 4).trans rfl;have hcz88_5 : w86.cell? ⟨gb219,5,none⟩ = some (.int .i64 x220005_3):=(kC BK219.out 5).trans rfl;have hcz88_6 : w86.cell? ⟨gb219,6,none⟩ = some (.int .i64 x220006_3):=(kC BK219.out 6).trans rfl;have hfz88_0:=kF BK219.out 0;have hfz88_1:=kF BK219.out 1;have hfz88_2:=kF BK219.out 2;have hfz88_3:=kF BK219.out 3;have hfz88_4:=kF BK219.out 4;have hfz88_5:=kF BK219.out 5;have hfz88_6:=kF BK219.out 6))
                      refine bodyPost_ret (results_cell_row rfl _ _ gb219 46 #[.int .i64 0,.int .i64 0,.slice Ao84 x221000_3.length co84,.slice Ao85 x221001_3.length co85,.int .i64 (rd t234 0),.int .i64 (rd t234 1),.int .i64 (rd t234 2)] (0,0) _ rfl (by (with_reducible repeat (first|refine kN ?_ _|refine kD ?_|refine kA ?_ _));refine blk_put (cs:=#[.int .i64 0,.int .i64 0,.slice Ao84 x221000_3.length co84,.slice Ao85 x221001_3.length co85,.int .i64 (rd t234 0),.int .i64 (rd t234 1),.int .i64 x220006_3]) ?_ 6 _ rfl;(with_reducible repeat (first|refine kN ?_ _|refine kD ?_|refine kA ?_ _));refine blk_put (cs:=#[.int .i64 0,.int .i64 0,.slice Ao84 x221000_3.length co84,.slice Ao85 x221001_3.length co85,.int .i64 (rd t234 0),.int .i64 x220005_3,.int .i64 x220006_3]) ?_ 5 _ rfl;(with_reducible repeat (first|refine kN ?_ _|refine kD ?_|refine kA ?_ _));refine blk_put (cs:=#[.int .i64 0,.int .i64 0,.slice Ao84 x221000_3.length co84,.slice Ao85 x221001_3.length co85,.int .i64 x220004_3,.int .i64 x220005_3,.int .i64 x220006_3]) ?_ 4 _ rfl;(with_reducible repeat (first|refine kN ?_ _|refine kD ?_|refine kA ?_ _));refine blk_put (cs:=#[.int .i64 0,.int .i64 0,.slice Ao84 x221000_3.length co84,.slice none 0 0,.int .i64 x220004_3,.int .i64 x220005_3,.int .i64 x220006_3]) ?_ 3 _ rfl;(with_reducible repeat (first|refine kN ?_ _|refine kD ?_|refine kA ?_ _));refine blk_put (cs:=#[.int .i64 0,.int .i64 0,.slice none 0 0,.slice none 0 0,.int .i64 x220004_3,.int .i64 x220005_3,.int .i64 x220006_3]) ?_ 2 _ rfl;(with_reducible repeat (first|refine kN ?_ _|refine kD ?_|refine kA ?_ _));refine blk_put (cs:=#[.int .i64 0,.int .i64 x220001_3,.slice none 0 0,.slice none 0 0,.int .i64 x220004_3,.int .i64 x220005_3,.int .i64 x220006_3]) ?_ 1 _ rfl;(with_reducible repeat (first|refine kN ?_ _|refine kD ?_|refine kA ?_ _));refine blk_put (cs:=#[.int .i64 x220000_3,.int .i64 x220001_3,.slice none 0 0,.slice none 0 0,.int .i64 x220004_3,.int .i64 x220005_3,.int .i64 x220006_3]) ?_ 0 _ rfl;(with_reducible repeat (first|refine kN ?_ _|refine kD ?_|refine kA ?_ _));exact BK219.out) Try.underlying46 rfl (by kernel_rfl)) rfl ?_
                      exact ⟨_,_,by first|rfl|(simp [errW_none,errW_some] <;> rfl)|(simp only [← hji35];first|rfl|(simp [errW_none,errW_some] <;> rfl))|(simp [*,errW_none,errW_some] <;> rfl),by (with_reducible repeat (first|apply Kd.R_alloc|apply Kd.R_drewN|apply Kd.R_drew));exact Kd.R_mono (Kd.R_far (p:=⟨gb219,6,none⟩) (Kd.R_far (p:=⟨gb219,5,none⟩) (Kd.R_far (p:=⟨gb219,4,none⟩) (Kd.R_far (p:=⟨gb219,3,none⟩) (Kd.R_far (p:=⟨gb219,2,none⟩) (Kd.R_far (p:=⟨gb219,1,none⟩) (Kd.R_far (p:=⟨gb219,0,none⟩) (Kd.R_types HO_221000.out BK219.out (by decide)) (fun _ hk => hk.2) (.int .i64 0)) (fun _ hk => hk.2) (.int .i64 0)) (fun _ hk => hk.2) (.slice Ao84 x221000_3.length co84)) (fun _ hk => hk.2) (.slice Ao85 x221001_3.length co85)) (fun _ hk => hk.2) (.int .i64 (rd t234 0))) (fun _ hk => hk.2) (.int .i64 (rd t234 1))) (fun _ hk => hk.2) (.int .i64 (rd t234 2))) (fun _ hk => trivial),by (with_reducible repeat (first|apply Kd.R_alloc|apply Kd.R_drewN|apply Kd.R_drew));exact Kd.R_mono (Kd.R_far (p:=⟨gb219,6,none⟩) (Kd.R_far (p:=⟨gb219,5,none⟩) (Kd.R_far (p:=⟨gb219,4,none⟩) (Kd.R_far (p:=⟨gb219,3,none⟩) (Kd.R_far (p:=⟨gb219,2,none⟩) (Kd.R_far (p:=⟨gb219,1,none⟩) (Kd.R_far (p:=⟨gb219,0,none⟩) (Kd.R_types HO_221001.out BK219.out (by decide)) (fun _ hk => hk.2) (.int .i64 0)) (fun _ hk => hk.2) (.int .i64 0)) (fun _ hk => hk.2) (.slice Ao84 x221000_3.length co84)) (fun _ hk => hk.2) (.slice Ao85 x221001_3.length co85)) (fun _ hk => hk.2) (.int .i64 (rd t234 0))) (fun _ hk => hk.2) (.int .i64 (rd t234 1))) (fun _ hk => hk.2) (.int .i64 (rd t234 2))) (fun _ hk => trivial),by repeat (first|(with_reducible first|exact HB.out|apply bA|apply bN|apply bD|refine bS ?_ GE219.out|refine bS ?_ GE220.out)|exact HB.out)⟩
                     ·rw [if_neg c75] at H
                      have c75b0 : (t253 == 0) = false:=beq_eq_false_iff_ne.mpr c75
                      have c75b1 : (t253 != 0) = true:=bne_iff_ne.mpr c75
                      simp only [Option.some.injEq,Prod.mk.injEq] at H
                      obtain ⟨rfl,rfl,rfl,rfl,rfl,rfl,rfl⟩:=H
                      have p233 : 0 ≤ (x36_3 : Int):=of_decide_eq_true (by first|(with_reducible assumption)|assumption)
                      have q233 : x36_3 < (x5_6.length : Int):=of_decide_eq_true (by first|(with_reducible assumption)|assumption)
                      obtain ⟨ad233,e233,hx233_0⟩:=Kd.at_string (Kd.R_reads' HO_34.out).2.2 x36_3 p233 q233
                      cases e233
                      replace p233:=eq_true p233
                      replace q233:=eq_true q233
                      try go_wp2_with (first|((with_reducible refine gate_callee (f:=90) rfl ?_);refine goesL_ (some 44) rfl rfl Try.func90 (by kernel_rfl) rfl #[.string a0,.int .i64 x4_1,.string (rdOf ByteArray.empty x5_6 x36_3)] rfl (by (try simp only [List.map_toArray,List.map_cons,List.map_nil]);first|done|rfl|(simp only [List.length_drop,List.length_take];rfl)) ?_;(with_reducible refine (impl_match.calls k3 a0 x4_1 (rdOf ByteArray.empty x5_6 x36_3) t234 t235 true _ A34.out).mono ?_);rintro e w89 ⟨v237,rfl,ho0,hb⟩;refine ⟨_,rfl,?_⟩;have n0_:=Am (Kd.R_below (by (with_reducible repeat (first|apply Kd.R_alloc|apply Kd.R_drewN|apply Kd.R_drew));exact HO_34.out) hb);have n1_:=Am (Kd.R_below (by (with_reducible repeat (first|apply Kd.R_alloc|apply Kd.R_drewN|apply Kd.R_drew));exact HO_221000.out) hb);have n2_:=Am (Kd.R_below (by (with_reducible repeat (first|apply Kd.R_alloc|apply Kd.R_drewN|apply Kd.R_drew));exact HO_221001.out) hb);have n3_:=Am (Kd.R_lower ho0 (below_size (by repeat (first|(with_reducible first|exact HB.out|apply bA|apply bN|apply bD|refine bS ?_ GE219.out|refine bS ?_ GE220.out)|exact HB.out))));have n4_:=Am (blk_below (g:=gb219) (o:=.cells #[.int .i64 x220000_3,.int .i64 x220001_3,.slice none 0 0,.slice none 0 0,.int .i64 x220004_3,.int .i64 x220005_3,.int .i64 x220006_3] 46 (0,0)) (by (with_reducible repeat (first|refine kN ?_ _|refine kD ?_|refine kA ?_ _));exact BK219.out) hb);have n5_:=Am (blk_below (g:=gb220) (o:=.cells #[u221000,u221001,.int .i64 x221002_3,.int .i64 x221003_3,.int .i64 x221004_3] 31 (0,0)) (by (with_reducible repeat (first|refine kN ?_ _|refine kD ?_|refine kA ?_ _));exact BK220.out) hb);have n6_:=Am (below_step (by repeat (first|(with_reducible first|exact HB.out|apply bA|apply bN|apply bD|refine bS ?_ GE219.out|refine bS ?_ GE220.out)|exact HB.out)) hb);clear HO_34;clear HO_221000;clear HO_221001;clear BK219;clear BK220;clear HB;have HO_34:=n0_;have HO_221000:=n1_;have HO_221001:=n2_;have HO238:=n3_;have BK219:=n4_;have BK220:=n5_;have HB:=n6_;clear n0_ n1_ n2_ n3_ n4_ n5_ n6_;(try clear hb);(try clear hb2);(try clear hk);(try clear hi);(try clear ho0);have p51 : 0 ≤ (3 : Int):=(by omega);have q51 : 3 < (rdOf ByteArray.empty x5_6 x36_3).size:=(by have : (3 : Int) < ((rdOf ByteArray.empty x5_6 x36_3).size : Int):=of_decide_eq_true (by first|(with_reducible assumption)|assumption);omega);have hx51 : ∀ h : 3 < (rdOf ByteArray.empty x5_6 x36_3).size,(((rdOf ByteArray.empty x5_6 x36_3)[3]'h).toNat : Int) = bt (rdOf ByteArray.empty x5_6 x36_3) 3:=bt_at (rdOf ByteArray.empty x5_6 x36_3) 3;clear p51;have qi51 : (3 < ((rdOf ByteArray.empty x5_6 x36_3).size : Int)) = True:=eq_true (of_decide_eq_true (by first|(with_reducible assumption)|assumption));replace q51:=eq_true q51))
                      have n0_:=Am (Kd.R_drew HO_34.out)
                      have n1_:=Am (Kd.R_drew HO_221000.out)
                      have n2_:=Am (Kd.R_drew HO_221001.out)
                      have n3_:=Am (Kd.R_drew HO238.out)
                      have n4_:=Am (kD BK219.out)
                      have n5_:=Am (kD BK220.out)
                      have n6_:=Am (bD HB.out)
                      clear HO_34
                      clear HO_221000
                      clear HO_221001
                      clear HO238
                      clear BK219
                      clear BK220
                      clear HB
                      have HO_34:=n0_
                      have HO_221000:=n1_
                      have HO_221001:=n2_
                      have HO238:=n3_
                      have BK219:=n4_
                      have BK220:=n5_
                      have HB:=n6_
                      clear n0_ n1_ n2_ n3_ n4_ n5_ n6_
                      obtain ⟨Ao91,co91,eo91⟩:=Kd.R_slice HO238.out
                      (first|subst eo91|(injection eo91 with f1_ f2_ f3_;have f4_:=f1_.symm;have f5_:=f3_.symm;clear f1_ f2_ f3_;subst f4_;subst f5_))
                      have p250 : 0 ≤ (0 : Int):=(by omega)
                      have q250 : 0 < (t234.length : Int):=of_decide_eq_true (by first|(with_reducible assumption)|assumption)
                      obtain ⟨ad250,e250,hx250_0⟩:=Kd.at_int (Kd.R_reads' HO238.out).2.2 0 p250 q250
                      cases e250
                      have qi250 : (0 < t234.length) = True:=eq_true (by omega)
                      (try rw [show ((0 : Int)).toNat = 0 from rfl] at hx250_0)
                      (try rw [Addr.add_zero'] at hx250_0)
                      replace p250:=eq_true p250
                      replace q250:=eq_true q250
                      have p251 : 0 ≤ (1 : Int):=(by omega)
                      have q251 : 1 < (t234.length : Int):=of_decide_eq_true (by first|(with_reducible assumption)|assumption)
                      obtain ⟨ad251,e251,hx251_0⟩:=Kd.at_int (Kd.R_reads' HO238.out).2.2 1 p251 q251
                      obtain rfl : ad250 = ad251:=(by injection e251)
                      (try simp only [show (1 : Int).toNat = 1 from rfl,Nat.reduceMul,Nat.reduceEqDiff,Go.Addr.add,↓reduceIte] at hx251_0)
                      have qi251 : (1 < t234.length) = True:=eq_true (by omega)
                      (try rw [show ((1 : Int)).toNat = 1 from rfl] at hx251_0)
                      replace p251:=eq_true p251
                      replace q251:=eq_true q251
                      have p252 : 0 ≤ (2 : Int):=(by omega)
                      have q252 : 2 < (t234.length : Int):=of_decide_eq_true (by first|(with_reducible assumption)|assumption)
                      obtain ⟨ad252,e252,hx252_0⟩:=Kd.at_int (Kd.R_reads' HO238.out).2.2 2 p252 q252
                      obtain rfl : ad250 = ad252:=(by injection e252)
                      (try simp only [show (2 : Int).toNat = 2 from rfl,Nat.reduceMul,Nat.reduceEqDiff,Go.Addr.add,↓reduceIte] at hx252_0)
                      have qi252 : (2 < t234.length) = True:=eq_true (by omega)
                      (try rw [show ((2 : Int)).toNat = 2 from rfl] at hx252_0)
                      replace p252:=eq_true p252
                      replace q252:=eq_true q252
                      refine start_ (n:=15) (S:=fun w' => w'.cell? ad250 = some (.int .i64 (rd t234 0))∧w'.cell? ⟨ad250.block,ad250.off + 1,none⟩ = some (.int .i64 (rd t234 1))∧w'.cell? ⟨ad250.block,ad250.off + 2,none⟩ = some (.int .i64 (rd t234 2))) (ds:=[]) #[false,false,false,false,false,false,false,false,false,false,false,false,false,false,false] (by kernel_rfl) rfl rfl ⟨hx250_0,hx251_0,hx252_0⟩ (fun hHeld => ?_);refine with_tabW impl_ReadProfile.tab21 impl_ReadProfile.bits21 (fun HT_ HW_ => ?_)
                      generalize w89.drew = w90 at HO_34 HO_221000 HO_221001 HO238 BK219 BK220 HB hx250_0 hx251_0 hx252_0 hHeld ⊢
                      refine pure_ (i:=0) (N:=some 70) (v:=?_) (a':=?_) #[true,false,false,false,false,false,false,false,false,false,false,false,false,false,false] rfl rfl (any_of HT_.out (by kernel_rfl)) (fun _ _ _ h => h) (Or.inl ⟨by rfl,?_⟩) ?_ ?_
                      rotate_left
                      ·intro w'
                       go_simp
                       with_reducible rfl
                      rotate_left
                      ·simp only [Act.put,pS]
                       rfl
                      refine pure_ (i:=1) (N:=some 71) (v:=?_) (a':=?_) #[true,true,false,false,false,false,false,false,false,false,false,false,false,false,false] rfl rfl (any_of HT_.out (by kernel_rfl)) (fun _ _ _ h => h) (Or.inl ⟨by rfl,?_⟩) ?_ ?_
                      rotate_left
                      ·intro w'
                       go_simp
                       with_reducible rfl
                      rotate_left
                      ·simp only [Act.put,pS]
                       rfl
                      refine pure_ (i:=3) (N:=some 73) (v:=?_) (a':=?_) #[true,true,false,true,false,false,false,false,false,false,false,false,false,false,false] rfl rfl (any_of HT_.out (by kernel_rfl)) (fun _ _ _ h => h) (Or.inl ⟨by rfl,?_⟩) ?_ ?_
                      rotate_left
                      ·intro w'
                       go_simp
                       with_reducible rfl
                      rotate_left
                      ·simp only [Act.put,pS]
                       rfl
                      refine pure_ (i:=4) (N:=some 74) (v:=?_) (a':=?_) #[true,true,false,true,true,false,false,false,false,false,false,false,false,false,false] rfl rfl (any_of HT_.out (by kernel_rfl)) (fun _ _ _ h => h) (Or.inl ⟨by rfl,?_⟩) ?_ ?_
                      rotate_left
                      ·intro w'
                       go_simp
                       with_reducible rfl
                      rotate_left
                      ·simp only [Act.put,pS]
                       rfl
                      refine pure_ (i:=6) (N:=some 76) (v:=?_) (a':=?_) #[true,true,false,true,true,false,true,false,false,false,false,false,false,false,false] rfl rfl (any_of HT_.out (by kernel_rfl)) (fun _ _ _ h => h) (Or.inl ⟨by rfl,?_⟩) ?_ ?_
                      rotate_left
                      ·intro w'
                       go_simp
                       with_reducible rfl
                      rotate_left
                      ·simp only [Act.put,pS]
                       rfl
                      refine pure_ (i:=7) (N:=some 77) (v:=?_) (a':=?_) #[true,true,false,true,true,false,true,true,false,false,false,false,false,false,false] rfl rfl (any_of HT_.out (by kernel_rfl)) (fun _ _ _ h => h) (Or.inl ⟨by rfl,?_⟩) ?_ ?_
                      rotate_left
                      ·intro w'
                       go_simp
                       with_reducible rfl
                      rotate_left
                      ·simp only [Act.put,pS]
                       rfl
                      refine take_ (i:=2) (N:=some 72) (v:=?_) (a':=?_) #[true,true,true,true,true,false,true,true,false,false,false,false,false,false,false] rfl rfl (take_ofW HT_.out HW_.out (by kernel_rfl)) (fun _ _ _ h => h) (Or.inl ⟨by rfl,?_⟩) hHeld ?_ ?_
                      rotate_left
                      ·rintro w' ⟨s0,s1,s2⟩
                       go_simp
                       with_reducible rfl
                      rotate_left
                      ·simp only [Act.put,pS]
                       rfl
                      refine pure_ (i:=9) (N:=some 79) (v:=?_) (a':=?_) #[true,true,true,true,true,false,true,true,false,true,false,false,false,false,false] rfl rfl (any_of HT_.out (by kernel_rfl)) (fun _ _ _ h => h) (Or.inl ⟨by rfl,?_⟩) ?_ ?_
                      rotate_left
                      ·intro w'
                       go_simp
                       with_reducible rfl
                      rotate_left
                      ·simp only [Act.put,pS]
                       rfl
                      refine take_ (i:=5) (N:=some 75) (v:=?_) (a':=?_) #[true,true,true,true,true,true,true,true,false,true,false,false,false,false,false] rfl rfl (take_ofW HT_.out HW_.out (by kernel_rfl)) (fun _ _ _ h => h) (Or.inl ⟨by rfl,?_⟩) hHeld ?_ ?_
                      rotate_left
                      ·rintro w' ⟨s0,s1,s2⟩
                       go_simp
                       with_reducible rfl
                      rotate_left
                      ·simp only [Act.put,pS]
                       rfl
                      refine take_ (i:=8) (N:=some 78) (v:=?_) (a':=?_) #[true,true,true,true,true,true,true,true,true,true,false,false,false,false,false] rfl rfl (take_ofW HT_.out HW_.out (by kernel_rfl)) (fun _ _ _ h => h) (Or.inl ⟨by rfl,?_⟩) hHeld ?_ ?_
                      rotate_left
                      ·rintro w' ⟨s0,s1,s2⟩
                       go_simp
                       with_reducible rfl
                      rotate_left
                      ·simp only [Act.put,pS]
                       rfl
                      refine one_ (i:=10) (N:=none) #[true,true,true,true,true,true,true,true,true,true,true,false,false,false,false] rfl rfl (one_of HT_.out (by kernel_rfl)) (by decide) (fun K hK => ?_)
                      have hs92 : w90.cell? ⟨gb220,2,none⟩ = some (.int .i64 x221002_3):=(kC BK220.out 2).trans rfl
                      have hfs92:=kF BK220.out 2
                      have hns92_0:=NB219_220.out
                      have hms92_0:=NB220_219.out
                      refine skip_ (w1:=?_) (by rfl) rfl ?_ ?_
                      rotate_left
                      ·go_simp
                       rfl
                      have hq7_:=Kd.own_blk (Kd.R_ne HO238.out BK220.out (by decide))
                      refine hK.out _ _ ⟨((cell_far (p:=⟨gb220,_,none⟩) (by first|exact hq7_|(dsimp only;exact hq7_)) _).trans (hHeld.1)),((cell_far (p:=⟨gb220,_,none⟩) (by first|exact hq7_|(dsimp only;exact hq7_)) _).trans (hHeld.2.1)),((cell_far (p:=⟨gb220,_,none⟩) (by first|exact hq7_|(dsimp only;exact hq7_)) _).trans (hHeld.2.2))⟩ (fun hHeld => ?_)
                      clear hq7_
                      clear hK K
                      refine pure_ (i:=11) (N:=some 80) (v:=?_) (a':=?_) #[true,true,true,true,true,true,true,true,true,true,true,true,false,false,false] rfl rfl (any_of HT_.out (by kernel_rfl)) (fun _ _ _ h => h) (Or.inl ⟨by rfl,?_⟩) ?_ ?_
                      rotate_left
                      ·intro w'
                       go_simp
                       with_reducible rfl
                      rotate_left
                      ·simp only [Act.put,pS]
                       rfl
                      refine one_ (i:=12) (N:=none) #[true,true,true,true,true,true,true,true,true,true,true,true,true,false,false] rfl rfl (one_of HT_.out (by kernel_rfl)) (by decide) (fun K hK => ?_)
                      have hs93 : w90.cell? ⟨gb220,3,none⟩ = some (.int .i64 x221003_3):=(kC BK220.out 3).trans rfl
                      have hfs93:=kF BK220.out 3
                      have hns93_0:=NB219_220.out
                      have hms93_0:=NB220_219.out
                      refine skip_ (w1:=?_) (by rfl) rfl ?_ ?_
                      rotate_left
                      ·go_simp
                       rfl
                      have hq8_:=Kd.own_blk (Kd.R_ne HO238.out BK220.out (by decide))
                      refine hK.out _ _ ⟨((cell_far (p:=⟨gb220,_,none⟩) (by first|exact hq8_|(dsimp only;exact hq8_)) _).trans (hHeld.1)),((cell_far (p:=⟨gb220,_,none⟩) (by first|exact hq8_|(dsimp only;exact hq8_)) _).trans (hHeld.2.1)),((cell_far (p:=⟨gb220,_,none⟩) (by first|exact hq8_|(dsimp only;exact hq8_)) _).trans (hHeld.2.2))⟩ (fun hHeld => ?_)
                      clear hq8_
                      clear hK K
                      refine pure_ (i:=13) (N:=some 81) (v:=?_) (a':=?_) #[true,true,true,true,true,true,true,true,true,true,true,true,true,true,false] rfl rfl (any_of HT_.out (by kernel_rfl)) (fun _ _ _ h => h) (Or.inl ⟨by rfl,?_⟩) ?_ ?_
                      rotate_left
                      ·intro w'
                       go_simp
                       with_reducible rfl
                      rotate_left
                      ·simp only [Act.put,pS]
                       rfl
                      refine one_ (i:=14) (N:=none) #[true,true,true,true,true,true,true,true,true,true,true,true,true,true,true] rfl rfl (one_of HT_.out (by kernel_rfl)) (by decide) (fun K hK => ?_)
                      have hs94 : w90.cell? ⟨gb220,4,none⟩ = some (.int .i64 x221004_3):=(kC BK220.out 4).trans rfl
                      have hfs94:=kF BK220.out 4
                      have hns94_0:=NB219_220.out
                      have hms94_0:=NB220_219.out
                      refine skip_ (w1:=?_) (by rfl) rfl ?_ ?_
                      rotate_left
                      ·go_simp
                       rfl
                      have hq9_:=Kd.own_blk (Kd.R_ne HO238.out BK220.out (by decide))
                      refine hK.out _ _ ⟨((cell_far (p:=⟨gb220,_,none⟩) (by first|exact hq9_|(dsimp only;exact hq9_)) _).trans (hHeld.1)),((cell_far (p:=⟨gb220,_,none⟩) (by first|exact hq9_|(dsimp only;exact hq9_)) _).trans (hHeld.2.1)),((cell_far (p:=⟨gb220,_,none⟩) (by first|exact hq9_|(dsimp only;exact hq9_)) _).trans (hHeld.2.2))⟩ (fun hHeld => ?_)
                      clear hq9_
                      clear hK K
                      refine done_ (done_of HT_.out (by kernel_rfl)) ?_
                      have hnb95:=NB220_219.out
                      have hnc95:=NB219_220.out
                      have hcz96_0 : w90.cell? ⟨gb220,0,none⟩ = some (u221000):=(kC BK220.out 0).trans rfl
                      have hcz96_1 : w90.cell? ⟨gb220,1,none⟩ = some (u221001):=(kC BK220.out 1).trans rfl
                      have hcz96_2 : w90.cell? ⟨gb220,2,none⟩ = some (.int .i64 x221002_3):=(kC BK220.out 2).trans rfl
                      have hcz96_3 : w90.cell? ⟨gb220,3,none⟩ = some (.int .i64 x221003_3):=(kC BK220.out 3).trans rfl
                      have hcz96_4 : w90.cell? ⟨gb220,4,none⟩ = some (.int .i64 x221004_3):=(kC BK220.out 4).trans rfl
                      have hfz96_0:=kF BK220.out 0
                      have hfz96_1:=kF BK220.out 1
                      have hfz96_2:=kF BK220.out 2
                      have hfz96_3:=kF BK220.out 3
                      have hfz96_4:=kF BK220.out 4
                      obtain ⟨Ao97,co97,eo97⟩:=Kd.R_slice HO_221000.out
                      subst eo97
                      obtain ⟨Ao98,co98,eo98⟩:=Kd.R_slice HO_221001.out
                      subst eo98
                      try go_wp2_with (first|((with_reducible refine gate_callee (f:=17) rfl ?_);refine goesL_ (some 89) rfl rfl Try.func17 (by kernel_rfl) rfl #[.agg #[.slice Ao97 x221000_3.length co97,.slice Ao98 x221001_3.length co98,.int .i64 (rd t234 0),.int .i64 (rd t234 1),.int .i64 (rd t234 2)]] rfl (by (try simp only [List.map_toArray,List.map_cons,List.map_nil]);first|done|rfl|(simp only [List.length_drop,List.length_take];rfl)) ?_;(with_reducible refine (impl_ProfileOk.calls _ _ x221000_3 _ _ x221001_3 (rd t234 0) (rd t234 1) (rd t234 2) t253 _ ?side1 ?side2 ?side3 ?side4 A74.out).mono ?_);(case side1 => refine (Kd.R_reads' (e:=71) (base:=w.heap.size) (ok:=fun k_ => True) (n:=x221000_3.length) (c:=co97) ?_).2.2;exact (by (with_reducible repeat (first|apply Kd.R_alloc|apply Kd.R_drewN|apply Kd.R_drew));exact (Kd.R_mono (Kd.R_far (p:=⟨gb220,4,none⟩) (Kd.R_far (p:=⟨gb220,3,none⟩) (Kd.R_far (p:=⟨gb220,2,none⟩) (Kd.R_types HO_221000.out BK220.out (by decide)) (fun _ hk => hk.2) (.int .i64 (rd t234 0))) (fun _ hk => hk.2) (.int .i64 (rd t234 1))) (fun _ hk => hk.2) (.int .i64 (rd t234 2))) (fun _ h_ => h_.1))));(case side2 => exact (Kd.R_reads' HO_221000.out).2.1);(case side3 => refine (Kd.R_reads' (e:=75) (base:=w.heap.size) (ok:=fun k_ => True) (n:=x221001_3.length) (c:=co98) ?_).2.2;exact (by (with_reducible repeat (first|apply Kd.R_alloc|apply Kd.R_drewN|apply Kd.R_drew));exact (Kd.R_mono (Kd.R_far (p:=⟨gb220,4,none⟩) (Kd.R_far (p:=⟨gb220,3,none⟩) (Kd.R_far (p:=⟨gb220,2,none⟩) (Kd.R_types HO_221001.out BK220.out (by decide)) (fun _ hk => hk.2) (.int .i64 (rd t234 0))) (fun _ hk => hk.2) (.int .i64 (rd t234 1))) (fun _ hk => hk.2) (.int .i64 (rd t234 2))) (fun _ h_ => h_.1))));(case side4 => exact (Kd.R_reads' HO_221001.out).2.1);rintro e w99 ⟨rfl,hb⟩;refine ⟨_,rfl,?_⟩;have n0_:=Am (Kd.R_below (by (with_reducible repeat (first|apply Kd.R_alloc|apply Kd.R_drewN|apply Kd.R_drew));exact (Kd.R_mono (Kd.R_far (p:=⟨gb220,4,none⟩) (Kd.R_far (p:=⟨gb220,3,none⟩) (Kd.R_far (p:=⟨gb220,2,none⟩) (Kd.R_types HO_34.out BK220.out (by decide)) (fun _ hk => hk.2) (.int .i64 (rd t234 0))) (fun _ hk => hk.2) (.int .i64 (rd t234 1))) (fun _ hk => hk.2) (.int .i64 (rd t234 2))) (fun _ h_ => h_.1))) hb);have n1_:=Am (Kd.R_below (by (with_reducible repeat (first|apply Kd.R_alloc|apply Kd.R_drewN|apply Kd.R_drew));exact (Kd.R_mono (Kd.R_far (p:=⟨gb220,4,none⟩) (Kd.R_far (p:=⟨gb220,3,none⟩) (Kd.R_far (p:=⟨gb220,2,none⟩) (Kd.R_types HO_221000.out BK220.out (by decide)) (fun _ hk => hk.2) (.int .i64 (rd t234 0))) (fun _ hk => hk.2) (.int .i64 (rd t234 1))) (fun _ hk => hk.2) (.int .i64 (rd t234 2))) (fun _ h_ => h_.1))) hb);have n2_:=Am (Kd.R_below (by (with_reducible repeat (first|apply Kd.R_alloc|apply Kd.R_drewN|apply Kd.R_drew));exact (Kd.R_mono (Kd.R_far (p:=⟨gb220,4,none⟩) (Kd.R_far (p:=⟨gb220,3,none⟩) (Kd.R_far (p:=⟨gb220,2,none⟩) (Kd.R_types HO_221001.out BK220.out (by decide)) (fun _ hk => hk.2) (.int .i64 (rd t234 0))) (fun _ hk => hk.2) (.int .i64 (rd t234 1))) (fun _ hk => hk.2) (.int .i64 (rd t234 2))) (fun _ h_ => h_.1))) hb);have n3_:=Am (Kd.R_below (by (with_reducible repeat (first|apply Kd.R_alloc|apply Kd.R_drewN|apply Kd.R_drew));exact (Kd.R_mono (Kd.R_far (p:=⟨gb220,4,none⟩) (Kd.R_far (p:=⟨gb220,3,none⟩) (Kd.R_far (p:=⟨gb220,2,none⟩) (Kd.R_types HO238.out BK220.out (by decide)) (fun _ hk => hk.2) (.int .i64 (rd t234 0))) (fun _ hk => hk.2) (.int .i64 (rd t234 1))) (fun _ hk => hk.2) (.int .i64 (rd t234 2))) (fun _ h_ => h_.1))) hb);have n4_:=Am (blk_below (g:=gb219) (o:=.cells #[.int .i64 x220000_3,.int .i64 x220001_3,.slice none 0 0,.slice none 0 0,.int .i64 x220004_3,.int .i64 x220005_3,.int .i64 x220006_3] 46 (0,0)) (by (with_reducible repeat (first|refine kN ?_ _|refine kD ?_|refine kA ?_ _));refine blk_far ?_ NB219_220.out _;(with_reducible repeat (first|refine kN ?_ _|refine kD ?_|refine kA ?_ _));refine blk_far ?_ NB219_220.out _;(with_reducible repeat (first|refine kN ?_ _|refine kD ?_|refine kA ?_ _));refine blk_far ?_ NB219_220.out _;(with_reducible repeat (first|refine kN ?_ _|refine kD ?_|refine kA ?_ _));exact BK219.out) hb);have n5_:=Am (blk_below (g:=gb220) (o:=.cells #[.slice Ao97 x221000_3.length co97,.slice Ao98 x221001_3.length co98,.int .i64 (rd t234 0),.int .i64 (rd t234 1),.int .i64 (rd t234 2)] 31 (0,0)) (by (with_reducible repeat (first|refine kN ?_ _|refine kD ?_|refine kA ?_ _));refine blk_put (cs:=#[.slice Ao97 x221000_3.length co97,.slice Ao98 x221001_3.length co98,.int .i64 (rd t234 0),.int .i64 (rd t234 1),.int .i64 x221004_3]) ?_ 4 _ rfl;(with_reducible repeat (first|refine kN ?_ _|refine kD ?_|refine kA ?_ _));refine blk_put (cs:=#[.slice Ao97 x221000_3.length co97,.slice Ao98 x221001_3.length co98,.int .i64 (rd t234 0),.int .i64 x221003_3,.int .i64 x221004_3]) ?_ 3 _ rfl;(with_reducible repeat (first|refine kN ?_ _|refine kD ?_|refine kA ?_ _));refine blk_put (cs:=#[.slice Ao97 x221000_3.length co97,.slice Ao98 x221001_3.length co98,.int .i64 x221002_3,.int .i64 x221003_3,.int .i64 x221004_3]) ?_ 2 _ rfl;(with_reducible repeat (first|refine kN ?_ _|refine kD ?_|refine kA ?_ _));exact BK220.out) hb);have n6_:=Am (below_step (by repeat (first|(with_reducible first|exact HB.out|apply bA|apply bN|apply bD|refine bS ?_ GE219.out|refine bS ?_ GE220.out)|exact HB.out)) hb);clear HO_34;clear HO_221000;clear HO_221001;clear HO238;clear BK219;clear BK220;clear HB;have HO_34:=n0_;have HO_221000:=n1_;have HO_221001:=n2_;have HO238:=n3_;have BK219:=n4_;have BK220:=n5_;have HB:=n6_;clear n0_ n1_ n2_ n3_ n4_ n5_ n6_;(try clear hb);(try clear hb2);(try clear hk);(try clear hi);have hcz100_0 : w99.cell? ⟨gb219,0,none⟩ = some (.int .i64 x220000_3):=(kC BK219.out 0).trans rfl;have hcz100_1 : w99.cell? ⟨gb219,1,none⟩ = some (.int .i64 x220001_3):=(kC BK219.out 1).trans rfl;have hcz100_2 : w99.cell? ⟨gb219,2,none⟩ = some (.slice none 0 0):=(kC BK219.out 2).trans rfl;have hcz100_3 : w99.cell? ⟨gb219,3,none⟩ = some (.slice none 0 0):=(kC BK219.out 3).trans rfl;have hcz100_4 : w99.cell? ⟨gb219,4,none⟩ = some (.int .i64 x220004_3):=(kC BK219.out 4).trans rfl;have hcz100_5 : w99.cell? ⟨gb219,5,none⟩ = some (.int .i64 x220005_3):=(kC BK219.out 5).trans rfl;have hcz100_6 : w99.cell? ⟨gb219,6,none⟩ = some (.int .i64 x220006_3):=(kC BK219.out 6).trans rfl;have hfz100_0:=kF BK219.out 0;have hfz100_1:=kF BK219.out 1;have hfz100_2:=kF BK219.out 2;have hfz100_3:=kF BK219.out 3;have hfz100_4:=kF BK219.out 4;have hfz100_5:=kF BK219.out 5;have hfz100_6:=kF BK219.out 6))
                      refine bodyPost_ret (results_cell_row rfl _ _ gb219 46 #[.int .i64 (wrap64 (1 + t253)),.int .i64 0,.slice none 0 0,.slice none 0 0,.int .i64 0,.int .i64 0,.int .i64 0] (0,0) _ rfl (by (with_reducible repeat (first|refine kN ?_ _|refine kD ?_|refine kA ?_ _));refine blk_put (cs:=#[.int .i64 (wrap64 (1 + t253)),.int .i64 0,.slice none 0 0,.slice none 0 0,.int .i64 0,.int .i64 0,.int .i64 x220006_3]) ?_ 6 _ rfl;(with_reducible repeat (first|refine kN ?_ _|refine kD ?_|refine kA ?_ _));refine blk_put (cs:=#[.int .i64 (wrap64 (1 + t253)),.int .i64 0,.slice none 0 0,.slice none 0 0,.int .i64 0,.int .i64 x220005_3,.int .i64 x220006_3]) ?_ 5 _ rfl;(with_reducible repeat (first|refine kN ?_ _|refine kD ?_|refine kA ?_ _));refine blk_put (cs:=#[.int .i64 (wrap64 (1 + t253)),.int .i64 0,.slice none 0 0,.slice none 0 0,.int .i64 x220004_3,.int .i64 x220005_3,.int .i64 x220006_3]) ?_ 4 _ rfl;(with_reducible repeat (first|refine kN ?_ _|refine kD ?_|refine kA ?_ _));refine blk_put (cs:=#[.int .i64 (wrap64 (1 + t253)),.int .i64 0,.slice none 0 0,.slice none 0 0,.int .i64 x220004_3,.int .i64 x220005_3,.int .i64 x220006_3]) ?_ 3 _ rfl;(with_reducible repeat (first|refine kN ?_ _|refine kD ?_|refine kA ?_ _));refine blk_put (cs:=#[.int .i64 (wrap64 (1 + t253)),.int .i64 0,.slice none 0 0,.slice none 0 0,.int .i64 x220004_3,.int .i64 x220005_3,.int .i64 x220006_3]) ?_ 2 _ rfl;(with_reducible repeat (first|refine kN ?_ _|refine kD ?_|refine kA ?_ _));refine blk_put (cs:=#[.int .i64 (wrap64 (1 + t253)),.int .i64 x220001_3,.slice none 0 0,.slice none 0 0,.int .i64 x220004_3,.int .i64 x220005_3,.int .i64 x220006_3]) ?_ 1 _ rfl;(with_reducible repeat (first|refine kN ?_ _|refine kD ?_|refine kA ?_ _));refine blk_put (cs:=#[.int .i64 x220000_3,.int .i64 x220001_3,.slice none 0 0,.slice none 0 0,.int .i64 x220004_3,.int .i64 x220005_3,.int .i64 x220006_3]) ?_ 0 _ rfl;(with_reducible repeat (first|refine kN ?_ _|refine kD ?_|refine kA ?_ _));exact BK219.out) Try.underlying46 rfl (by kernel_rfl)) rfl ?_
                      exact ⟨_,_,by first|rfl|(simp [errW_none,errW_some] <;> rfl)|(simp only [← hji35];first|rfl|(simp [errW_none,errW_some] <;> rfl))|(simp [*,errW_none,errW_some] <;> rfl),by first|exact Kd.R_nil _ _ _ _ _|exact Kd.N_nil _ _ _ _ _|exact Kd.V_nil _ _ _ _ _|exact Kd.Q_nil _ _ _ _ _|exact Kd.S_nil _ _ _ _ _,by first|exact Kd.R_nil _ _ _ _ _|exact Kd.N_nil _ _ _ _ _|exact Kd.V_nil _ _ _ _ _|exact Kd.Q_nil _ _ _ _ _|exact Kd.S_nil _ _ _ _ _,by repeat (first|(with_reducible first|exact HB.out|apply bA|apply bN|apply bD|refine bS ?_ GE219.out|refine bS ?_ GE220.out)|exact HB.out)⟩
                   ·rw [if_neg c64] at H
                    exact absurd H (by simp)
                  ·rw [if_neg c63] at H
                   exact absurd H (by simp)
                 ·rw [if_neg c62] at H
                  exact absurd H (by simp)
               ·rw [if_neg c50] at H
                exact absurd H (by simp)
             ·rw [if_neg c38] at H
              exact absurd H (by simp)
            ·rw [if_neg c37] at H
             exact absurd H (by simp)
           ·replace c36:=Bool.eq_false_iff.mpr c36
            subst c36
            have H1 : (impl_ReadProfile.l1 k3 a0 x4_1 ji35 x7_3 x5_6 (x5_6.length : Int) (wrap64 (x36_3 + 1)) x221000_3 x221001_3 x221002_3 x221003_3 x221004_3) = some (r1,r2,r3,r4,r5,r6,r7):=by rw [if_neg (show ¬ (false = true) by decide)] at H;exact H
            clear H
            have H:=H1
            clear H1
            have H':=Am H
            clear H
            have p233 : 0 ≤ (x36_3 : Int):=of_decide_eq_true (by first|(with_reducible assumption)|assumption)
            have q233 : x36_3 < (x5_6.length : Int):=of_decide_eq_true (by first|(with_reducible assumption)|assumption)
            obtain ⟨ad233,e233,hx233_0⟩:=Kd.at_string (Kd.R_reads' HO_34.out).2.2 x36_3 p233 q233
            cases e233
            replace p233:=eq_true p233
            replace q233:=eq_true q233
            go_wp2_with (first|((with_reducible refine gate_callee (f:=90) rfl ?_);refine goesL_ (some 44) rfl rfl Try.func90 (by kernel_rfl) rfl #[.string a0,.int .i64 x4_1,.string (rdOf ByteArray.empty x5_6 x36_3)] rfl (by (try simp only [List.map_toArray,List.map_cons,List.map_nil]);first|done|rfl|(simp only [List.length_drop,List.length_take];rfl)) ?_;(with_reducible refine (impl_match.calls k3 a0 x4_1 (rdOf ByteArray.empty x5_6 x36_3) t234 t235 false _ A34.out).mono ?_);rintro e w101 ⟨v237,rfl,ho0,hb⟩;refine ⟨_,rfl,?_⟩;have n0_:=Am (Kd.R_below (by (with_reducible repeat (first|apply Kd.R_alloc|apply Kd.R_drewN|apply Kd.R_drew));exact HO_34.out) hb);have n1_:=Am (Kd.R_below (by (with_reducible repeat (first|apply Kd.R_alloc|apply Kd.R_drewN|apply Kd.R_drew));exact HO_221000.out) hb);have n2_:=Am (Kd.R_below (by (with_reducible repeat (first|apply Kd.R_alloc|apply Kd.R_drewN|apply Kd.R_drew));exact HO_221001.out) hb);have n3_:=Am (Kd.R_lower ho0 (below_size (by repeat (first|(with_reducible first|exact HB.out|apply bA|apply bN|apply bD|refine bS ?_ GE219.out|refine bS ?_ GE220.out)|exact HB.out))));have n4_:=Am (blk_below (g:=gb219) (o:=.cells #[.int .i64 x220000_3,.int .i64 x220001_3,.slice none 0 0,.slice none 0 0,.int .i64 x220004_3,.int .i64 x220005_3,.int .i64 x220006_3] 46 (0,0)) (by (with_reducible repeat (first|refine kN ?_ _|refine kD ?_|refine kA ?_ _));exact BK219.out) hb);have n5_:=Am (blk_below (g:=gb220) (o:=.cells #[u221000,u221001,.int .i64 x221002_3,.int .i64 x221003_3,.int .i64 x221004_3] 31 (0,0)) (by (with_reducible repeat (first|refine kN ?_ _|refine kD ?_|refine kA ?_ _));exact BK220.out) hb);have n6_:=Am (below_step (by repeat (first|(with_reducible first|exact HB.out|apply bA|apply bN|apply bD|refine bS ?_ GE219.out|refine bS ?_ GE220.out)|exact HB.out)) hb);clear HO_34;clear HO_221000;clear HO_221001;clear BK219;clear BK220;clear HB;have HO_34:=n0_;have HO_221000:=n1_;have HO_221001:=n2_;have HO238:=n3_;have BK219:=n4_;have BK220:=n5_;have HB:=n6_;clear n0_ n1_ n2_ n3_ n4_ n5_ n6_;(try clear hb);(try clear hb2);(try clear hk);(try clear hi);(try clear ho0)))
            go_roundg k3
            case measure => have:=HK1.out;have:=HJ6.out;have:=HK3.out;omega
            case rel => exact ⟨(ji35),(x7_3),(wrap64 (x36_3 + 1)),(x220000_3),(x220001_3),(x220004_3),(x220005_3),(x220006_3),(x221000_3),(x221001_3),(x221002_3),(x221003_3),(x221004_3),(u221000),(u221001),(by first|rfl|(simp;done)|(simp only [← hji35] <;> (first|rfl|simp))|(simp [*];done)),(by first|rfl|(simp;done)|(simp [*];done)),(by first|rfl|(simp;done)|(simp [*];done)),H',⟨by have:=HK1.out;have:=HJ6.out;have:=HK3.out;omega⟩,⟨by (with_reducible repeat (first|apply Kd.R_alloc|apply Kd.R_drewN|apply Kd.R_drew));exact HO_34.out⟩,⟨by (with_reducible repeat (first|apply Kd.R_alloc|apply Kd.R_drewN|apply Kd.R_drew));exact HO_221000.out⟩,⟨by (with_reducible repeat (first|apply Kd.R_alloc|apply Kd.R_drewN|apply Kd.R_drew));exact HO_221001.out⟩,⟨by (with_reducible repeat (first|refine kN ?_ _|refine kD ?_|refine kA ?_ _));exact BK219.out⟩,⟨by (with_reducible repeat (first|refine kN ?_ _|refine kD ?_|refine kA ?_ _));exact BK220.out⟩,⟨by repeat (first|(with_reducible first|exact HB.out|apply bA|apply bN|apply bD|refine bS ?_ GE219.out|refine bS ?_ GE220.out)|exact HB.out)⟩⟩
          ·rw [if_neg c33] at H
           exact absurd H (by simp)
         ·rw [if_neg c32] at H
          exact absurd H (by simp)
        ·rw [if_neg c31] at H
         have c31b0 : decide (x36_3 < (x5_6.length : Int)) = false:=decide_eq_false c31
         clear c31
         by_cases c102 : x7_3 = true
         ·subst c102
          have H1 : (impl_ReadProfile.l0 k3 a0 x6_3 x221000_3 x221001_3 x221002_3 x221003_3 x221004_3) = some (r1,r2,r3,r4,r5,r6,r7):=by rw [if_pos rfl] at H;exact H
          clear H
          have H:=H1
          clear H1
          have H':=Am H
          clear H
          go_wp2
          go_roundg k3
          case measure => have:=HK1.out;have:=HJ6.out;have:=HK3.out;omega
          case rel => exact ⟨(x6_3),(x220000_3),(x220001_3),(x220004_3),(x220005_3),(x220006_3),(x221000_3),(x221001_3),(x221002_3),(x221003_3),(x221004_3),(u221000),(u221001),(by first|rfl|(simp;done)|(simp [*];done)),H',⟨by have:=HK1.out;have:=HJ6.out;have:=HK3.out;omega⟩,⟨by (with_reducible repeat (first|apply Kd.R_alloc|apply Kd.R_drewN|apply Kd.R_drew));exact HO_221000.out⟩,⟨by (with_reducible repeat (first|apply Kd.R_alloc|apply Kd.R_drewN|apply Kd.R_drew));exact HO_221001.out⟩,⟨by (with_reducible repeat (first|refine kN ?_ _|refine kD ?_|refine kA ?_ _));exact BK219.out⟩,⟨by (with_reducible repeat (first|refine kN ?_ _|refine kD ?_|refine kA ?_ _));exact BK220.out⟩,⟨by repeat (first|(with_reducible first|exact HB.out|apply bA|apply bN|apply bD|refine bS ?_ GE219.out|refine bS ?_ GE220.out)|exact HB.out)⟩⟩
         ·replace c102:=Bool.eq_false_iff.mpr c102
          subst c102
          have H1 : (some (1,x6_3,([] : List (S71)),([] : List (S75)),0,0,0)) = some (r1,r2,r3,r4,r5,r6,r7):=by rw [if_neg (show ¬ (false = true) by decide)] at H;exact H
          clear H
          have H:=H1
          clear H1
          simp only [Option.some.injEq,Prod.mk.injEq] at H
          obtain ⟨rfl,rfl,rfl,rfl,rfl,rfl,rfl⟩:=H
          have hnb103:=NB219_220.out
          have hnc103:=NB220_219.out
          have hcz104_0 : wr.cell? ⟨gb219,0,none⟩ = some (.int .i64 x220000_3):=(kC BK219.out 0).trans rfl
          have hcz104_1 : wr.cell? ⟨gb219,1,none⟩ = some (.int .i64 x220001_3):=(kC BK219.out 1).trans rfl
          have hcz104_2 : wr.cell? ⟨gb219,2,none⟩ = some (.slice none 0 0):=(kC BK219.out 2).trans rfl
          have hcz104_3 : wr.cell? ⟨gb219,3,none⟩ = some (.slice none 0 0):=(kC BK219.out 3).trans rfl
          have hcz104_4 : wr.cell? ⟨gb219,4,none⟩ = some (.int .i64 x220004_3):=(kC BK219.out 4).trans rfl
          have hcz104_5 : wr.cell? ⟨gb219,5,none⟩ = some (.int .i64 x220005_3):=(kC BK219.out 5).trans rfl
          have hcz104_6 : wr.cell? ⟨gb219,6,none⟩ = some (.int .i64 x220006_3):=(kC BK219.out 6).trans rfl
          have hfz104_0:=kF BK219.out 0
          have hfz104_1:=kF BK219.out 1
          have hfz104_2:=kF BK219.out 2
          have hfz104_3:=kF BK219.out 3
          have hfz104_4:=kF BK219.out 4
          have hfz104_5:=kF BK219.out 5
          have hfz104_6:=kF BK219.out 6
          go_wp2
          refine bodyPost_ret (results_cell_row rfl _ _ gb219 46 #[.int .i64 1,.int .i64 x6_3,.slice none 0 0,.slice none 0 0,.int .i64 0,.int .i64 0,.int .i64 0] (0,0) _ rfl (by (with_reducible repeat (first|refine kN ?_ _|refine kD ?_|refine kA ?_ _));refine blk_put (cs:=#[.int .i64 1,.int .i64 x6_3,.slice none 0 0,.slice none 0 0,.int .i64 0,.int .i64 0,.int .i64 x220006_3]) ?_ 6 _ rfl;(with_reducible repeat (first|refine kN ?_ _|refine kD ?_|refine kA ?_ _));refine blk_put (cs:=#[.int .i64 1,.int .i64 x6_3,.slice none 0 0,.slice none 0 0,.int .i64 0,.int .i64 x220005_3,.int .i64 x220006_3]) ?_ 5 _ rfl;(with_reducible repeat (first|refine kN ?_ _|refine kD ?_|refine kA ?_ _));refine blk_put (cs:=#[.int .i64 1,.int .i64 x6_3,.slice none 0 0,.slice none 0 0,.int .i64 x220004_3,.int .i64 x220005_3,.int .i64 x220006_3]) ?_ 4 _ rfl;(with_reducible repeat (first|refine kN ?_ _|refine kD ?_|refine kA ?_ _));refine blk_put (cs:=#[.int .i64 1,.int .i64 x6_3,.slice none 0 0,.slice none 0 0,.int .i64 x220004_3,.int .i64 x220005_3,.int .i64 x220006_3]) ?_ 3 _ rfl;(with_reducible repeat (first|refine kN ?_ _|refine kD ?_|refine kA ?_ _));refine blk_put (cs:=#[.int .i64 1,.int .i64 x6_3,.slice none 0 0,.slice none 0 0,.int .i64 x220004_3,.int .i64 x220005_3,.int .i64 x220006_3]) ?_ 2 _ rfl;(with_reducible repeat (first|refine kN ?_ _|refine kD ?_|refine kA ?_ _));refine blk_put (cs:=#[.int .i64 1,.int .i64 x220001_3,.slice none 0 0,.slice none 0 0,.int .i64 x220004_3,.int .i64 x220005_3,.int .i64 x220006_3]) ?_ 1 _ rfl;(with_reducible repeat (first|refine kN ?_ _|refine kD ?_|refine kA ?_ _));refine blk_put (cs:=#[.int .i64 x220000_3,.int .i64 x220001_3,.slice none 0 0,.slice none 0 0,.int .i64 x220004_3,.int .i64 x220005_3,.int .i64 x220006_3]) ?_ 0 _ rfl;(with_reducible repeat (first|refine kN ?_ _|refine kD ?_|refine kA ?_ _));exact BK219.out) Try.underlying46 rfl (by kernel_rfl)) rfl ?_
          exact ⟨_,_,by first|rfl|(simp [errW_none,errW_some] <;> rfl)|(simp [*,errW_none,errW_some] <;> rfl),by first|exact Kd.R_nil _ _ _ _ _|exact Kd.N_nil _ _ _ _ _|exact Kd.V_nil _ _ _ _ _|exact Kd.Q_nil _ _ _ _ _|exact Kd.S_nil _ _ _ _ _,by first|exact Kd.R_nil _ _ _ _ _|exact Kd.N_nil _ _ _ _ _|exact Kd.V_nil _ _ _ _ _|exact Kd.Q_nil _ _ _ _ _|exact Kd.S_nil _ _ _ _ _,by repeat (first|(with_reducible first|exact HB.out|apply bA|apply bN|apply bD|refine bS ?_ GE219.out|refine bS ?_ GE220.out)|exact HB.out)⟩

end Go.Proofs.Ytgakkndbcilclaa.PC
