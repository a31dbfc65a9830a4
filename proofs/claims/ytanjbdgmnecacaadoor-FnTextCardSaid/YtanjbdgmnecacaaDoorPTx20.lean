-- Written by a program of this session (wip/print/myprint.py) over the kit's print, with contracts of its own; not a text of print.sh's.
import Derived.Test.YtanjbdgmnecacaaDoorPTx0
import Derived.Test.YtanjbdgmnecacaaDoorPTx10
import Derived.Test.YtanjbdgmnecacaaDoorPTx19
namespace Go.Proofs.YtanjbdgmnecacaaDoor.PT
open Go.RowKit Go.Proofs.YtanjbdgmnecacaaDoorW.PrintWords Go.Proofs.YtanjbdgmnecacaaDoorW.PrintLast Go.Proofs.YtanjbdgmnecacaaDoorW.PrintMore
attribute [local go_sem] max2_int min2_int max_two min_two   -- for this text's walks alone
set_option linter.unusedVariables false
set_option linter.unusedSimpArgs false

/-! ### impl_ReadProfile: function 7 -/
mutual
def impl_ReadProfile.l0 : Nat → ByteArray → Int → List (S49) → List (S56) → Int → Int → Int → Option (Int × Int × (List (S49)) × (List (S56)) × Int × Int × Int)
 | 0,_,_,_,_,_,_,_ => none
 | k + 1,x0,x4,x306000,x306001,x306002,x306003,x306004 => (some (([(⟨#[116,114,97,99,107,32,35,32,98,114,97,107,101,32,35,10]⟩ : ByteArray)] : List ByteArray) : List ByteArray)).bind fun y306 => (if (x306001.length : Int) > 0 then (impl_ReadProfile.j1 k x0 x4 (([(⟨#[108,105,109,105,116,32,35,32,35,32,35,10]⟩ : ByteArray),(⟨#[116,114,97,105,110,32,35,32,101,110,100,32,35,32,100,101,108,97,121,32,35,10]⟩ : ByteArray)] : List ByteArray)) x306000 x306001 x306002 x306003 x306004) else (if (x306000.length : Int) > 0 then ((some (([(⟨#[108,105,109,105,116,32,35,32,35,32,35,10]⟩ : ByteArray),(⟨#[116,114,97,105,110,32,35,32,101,110,100,32,35,32,100,101,108,97,121,32,35,10]⟩ : ByteArray)] : List ByteArray) : List ByteArray)).bind fun y312 => (if y306.length + y312.length < 8796093022208 then (impl_ReadProfile.j1 k x0 x4 (y306 ++ y312) x306000 x306001 x306002 x306003 x306004) else (none))) else (impl_ReadProfile.j1 k x0 x4 y306 x306000 x306001 x306002 x306003 x306004)))
def impl_ReadProfile.j1 : Nat → ByteArray → Int → List ByteArray → List (S49) → List (S56) → Int → Int → Int → Option (Int × Int × (List (S49)) × (List (S56)) × Int × Int × Int)
 | 0,_,_,_,_,_,_,_,_ => none
 | k + 1,x0,x4,x5,x306000,x306001,x306002,x306003,x306004 => impl_ReadProfile.l1 k x0 x4 x4 false x5 (x5.length : Int) 0 x306000 x306001 x306002 x306003 x306004
def impl_ReadProfile.l1 : Nat → ByteArray → Int → Int → Bool → List ByteArray → Int → Int → List (S49) → List (S56) → Int → Int → Int → Option (Int × Int × (List (S49)) × (List (S56)) × Int × Int × Int)
 | 0,_,_,_,_,_,_,_,_,_,_,_,_ => none
 | k + 1,x0,x4,x6,x7,x34,x35,x36,x306000,x306001,x306002,x306003,x306004 => if x36 < x35 then (if 0 ≤ x36 then (if x36 < (x34.length : Int) then ((impl_match.f k x0 x4 (rdOf ByteArray.empty x34 x36)).bind fun bt319 => (if bt319.2.2 = true then (if 0 ≤ 3 then (if 3 ≤ ((rdOf ByteArray.empty x34 x36).size : Int) then (if ((rdOf ByteArray.empty x34 x36).extract 0 3).toList = ([108,105,109] : List UInt8) then (if 0 < (bt319.1.length : Int) then (if 1 < (bt319.1.length : Int) then (if 2 < (bt319.1.length : Int) then (if x306001.length < 5864062014805 then (impl_ReadProfile.l0 k x0 (mx x6 bt319.2.1) x306000 (x306001 ++ [(⟨rd bt319.1 0,rd bt319.1 1,rd bt319.1 2⟩ : S56)]) x306002 x306003 x306004) else (none)) else (none)) else (none)) else (none)) else (if 3 < ((rdOf ByteArray.empty x34 x36).size : Int) then (if (bt (rdOf ByteArray.empty x34 x36) 3) = 99 then (if 0 < (bt319.1.length : Int) then (if 1 < (bt319.1.length : Int) then (if x306000.length < 8796093022208 then (impl_ReadProfile.l0 k x0 (mx x6 bt319.2.1) (x306000 ++ [(⟨rd bt319.1 0,rd bt319.1 1⟩ : S49)]) x306001 x306002 x306003 x306004) else (none)) else (none)) else (none)) else (if 0 < (bt319.1.length : Int) then (if 1 < (bt319.1.length : Int) then (if 2 < (bt319.1.length : Int) then (if bt319.2.1 < (x0.size : Int) then (some (1,bt319.2.1,([] : List (S49)),([] : List (S56)),0,0,0)) else ((impl_ProfileOk.f x306000 x306001 (rd bt319.1 0) (rd bt319.1 1) (rd bt319.1 2)).bind fun t338 => (if t338 = 0 then (some (0,0,x306000,x306001,rd bt319.1 0,rd bt319.1 1,rd bt319.1 2)) else (some (wrap64 (1 + t338),0,([] : List (S49)),([] : List (S56)),0,0,0))))) else (none)) else (none)) else (none))) else (none))) else (none)) else (none)) else (impl_ReadProfile.l1 k x0 x4 (mx x6 bt319.2.1) x7 x34 x35 (wrap64 (x36 + 1)) x306000 x306001 x306002 x306003 x306004))) else (none)) else (none)) else (if x7 = true then (impl_ReadProfile.l0 k x0 x6 x306000 x306001 x306002 x306003 x306004) else (some (1,x6,([] : List (S49)),([] : List (S56)),0,0,0)))
end
def impl_ReadProfile.f (k : Nat) (a0 : ByteArray) : Option (Int × Int × (List (S49)) × (List (S56)) × Int × Int × Int):=if (a0.size : Int) > 3000 then (some (1,3000,([] : List (S49)),([] : List (S56)),0,0,0)) else (impl_ReadProfile.l0 k a0 0 ([] : List (S49)) ([] : List (S56)) 0 0 0)
theorem impl_ReadProfile.mono_l : ∀ k,(∀ y0 y1 y2 y3 y4 y5 y6,LeO (impl_ReadProfile.l0 k y0 y1 y2 y3 y4 y5 y6) (impl_ReadProfile.l0 (k + 1) y0 y1 y2 y3 y4 y5 y6))∧(∀ y0 y1 y2 y3 y4 y5 y6 y7,LeO (impl_ReadProfile.j1 k y0 y1 y2 y3 y4 y5 y6 y7) (impl_ReadProfile.j1 (k + 1) y0 y1 y2 y3 y4 y5 y6 y7))∧(∀ y0 y1 y2 y3 y4 y5 y6 y7 y8 y9 y10 y11,LeO (impl_ReadProfile.l1 k y0 y1 y2 y3 y4 y5 y6 y7 y8 y9 y10 y11) (impl_ReadProfile.l1 (k + 1) y0 y1 y2 y3 y4 y5 y6 y7 y8 y9 y10 y11))
 | 0 => ⟨fun _ _ _ _ _ _ _ r h => by simp [impl_ReadProfile.l0] at h,fun _ _ _ _ _ _ _ _ r h => by simp [impl_ReadProfile.j1] at h,fun _ _ _ _ _ _ _ _ _ _ _ _ r h => by simp [impl_ReadProfile.l1] at h⟩
 | k + 1 => by
  obtain ⟨ih0,ih1,ih2⟩:=impl_ReadProfile.mono_l k;refine ⟨?_,?_,?_⟩
  ·intro y0 y1 y2 y3 y4 y5 y6;unfold impl_ReadProfile.l0
   repeat' first
   | (with_reducible exact ih0 _ _ _ _ _ _ _)
   | (with_reducible exact ih1 _ _ _ _ _ _ _ _)
   | (with_reducible exact ih2 _ _ _ _ _ _ _ _ _ _ _ _)
   | (with_reducible exact impl_match.mono _ _ _ _)
   | (with_reducible exact LeO.refl _)
   | (with_reducible exact LeO.none _)
   | (with_reducible refine LeO.ite ?_ ?_)
   | (with_reducible refine LeO.bind ?_ (fun _ => ?_))
   | exact ih0 _ _ _ _ _ _ _
   | exact ih1 _ _ _ _ _ _ _ _
   | exact ih2 _ _ _ _ _ _ _ _ _ _ _ _
   | exact impl_match.mono _ _ _ _
   | exact LeO.none _
   | refine LeO.ite ?_ ?_
   | refine LeO.bind ?_ (fun _ => ?_)
  ·intro y0 y1 y2 y3 y4 y5 y6 y7;unfold impl_ReadProfile.j1
   repeat' first
   | (with_reducible exact ih0 _ _ _ _ _ _ _)
   | (with_reducible exact ih1 _ _ _ _ _ _ _ _)
   | (with_reducible exact ih2 _ _ _ _ _ _ _ _ _ _ _ _)
   | (with_reducible exact impl_match.mono _ _ _ _)
   | (with_reducible exact LeO.refl _)
   | (with_reducible exact LeO.none _)
   | (with_reducible refine LeO.ite ?_ ?_)
   | (with_reducible refine LeO.bind ?_ (fun _ => ?_))
   | exact ih0 _ _ _ _ _ _ _
   | exact ih1 _ _ _ _ _ _ _ _
   | exact ih2 _ _ _ _ _ _ _ _ _ _ _ _
   | exact impl_match.mono _ _ _ _
   | exact LeO.none _
   | refine LeO.ite ?_ ?_
   | refine LeO.bind ?_ (fun _ => ?_)
  ·intro y0 y1 y2 y3 y4 y5 y6 y7 y8 y9 y10 y11;unfold impl_ReadProfile.l1
   repeat' first
   | (with_reducible exact ih0 _ _ _ _ _ _ _)
   | (with_reducible exact ih1 _ _ _ _ _ _ _ _)
   | (with_reducible exact ih2 _ _ _ _ _ _ _ _ _ _ _ _)
   | (with_reducible exact impl_match.mono _ _ _ _)
   | (with_reducible exact LeO.refl _)
   | (with_reducible exact LeO.none _)
   | (with_reducible refine LeO.ite ?_ ?_)
   | (with_reducible refine LeO.bind ?_ (fun _ => ?_))
   | exact ih0 _ _ _ _ _ _ _
   | exact ih1 _ _ _ _ _ _ _ _
   | exact ih2 _ _ _ _ _ _ _ _ _ _ _ _
   | exact impl_match.mono _ _ _ _
   | exact LeO.none _
   | refine LeO.ite ?_ ?_
   | refine LeO.bind ?_ (fun _ => ?_)
theorem impl_ReadProfile.mono : ∀ a0 k,LeO (impl_ReadProfile.f k a0) (impl_ReadProfile.f (k + 1) a0):=by
 intro a0 k;obtain ⟨ih0,ih1,ih2⟩:=impl_ReadProfile.mono_l k;unfold impl_ReadProfile.f
 repeat' first
   | (with_reducible exact ih0 _ _ _ _ _ _ _)
   | (with_reducible exact ih1 _ _ _ _ _ _ _ _)
   | (with_reducible exact ih2 _ _ _ _ _ _ _ _ _ _ _ _)
   | (with_reducible exact impl_match.mono _ _ _ _)
   | (with_reducible exact LeO.refl _)
   | (with_reducible exact LeO.none _)
   | (with_reducible refine LeO.ite ?_ ?_)
   | (with_reducible refine LeO.bind ?_ (fun _ => ?_))
   | exact ih0 _ _ _ _ _ _ _
   | exact ih1 _ _ _ _ _ _ _ _
   | exact ih2 _ _ _ _ _ _ _ _ _ _ _ _
   | exact impl_match.mono _ _ _ _
   | exact LeO.none _
   | refine LeO.ite ?_ ?_
   | refine LeO.bind ?_ (fun _ => ?_)
def impl_ReadProfile.T20 : Bool × List (List Nat × List Nat):=(true,[([],[]),([0],[0]),([],[]),([2],[2]),([3],[3]),([],[]),([5],[5]),([6],[6]),([4,7],[4,7]),([8],[8]),([1,9],[1,9]),([0,1,2,3,4,5,6,7,8,9,10],[]),([11,10,10,0,1,2,3,4,5,6,7,8,9,10],[10,11])])
def impl_ReadProfile.B20 : List Nat:=[0,1,0,4,12,0,32,96,252,508,1023,2047,4095]
theorem impl_ReadProfile.tab20 : rtab .any (opsOf Tryd.f7 20) = impl_ReadProfile.T20:=by kernel_rfl
theorem impl_ReadProfile.bits20 : waitsOk impl_ReadProfile.T20.2 impl_ReadProfile.B20 = true:=by kernel_rfl
def impl_ReadProfile.T21 : Bool × List (List Nat × List Nat):=(true,[([],[]),([0],[0]),([1],[1]),([],[]),([3],[3]),([4],[4]),([],[]),([6],[6]),([7],[7]),([0,1,2],[]),([9,2,0,1,2],[2,9]),([0,1,2,3,4,5,9,10],[]),([11,5,10,0,1,2,3,4,5,9,10],[5,11]),([0,1,2,3,4,5,6,7,8,9,10,11,12],[]),([13,8,12,0,1,2,3,4,5,6,7,8,9,10,11,12],[8,13])])
def impl_ReadProfile.B21 : List Nat:=[0,1,3,0,8,24,0,64,192,7,519,1599,3647,8191,16383]
theorem impl_ReadProfile.tab21 : rtab .any (opsOf Tryd.f7 21) = impl_ReadProfile.T21:=by kernel_rfl
theorem impl_ReadProfile.bits21 : waitsOk impl_ReadProfile.T21.2 impl_ReadProfile.B21 = true:=by kernel_rfl
def impl_ReadProfile.T29 : Bool × List (List Nat × List Nat):=(true,[([],[]),([0],[0]),([],[]),([2],[2]),([3],[3]),([],[]),([5],[5]),([6],[6]),([],[]),([8],[8]),([9],[9]),([4,7,10],[4,7,10]),([11],[11]),([1,12],[1,12]),([0,1,2,3,4,5,6,7,8,9,10,11,12,13],[]),([14,13,13,0,1,2,3,4,5,6,7,8,9,10,11,12,13],[13,14])])
def impl_ReadProfile.B29 : List Nat:=[0,1,0,4,12,0,32,96,0,256,768,2044,4092,8191,16383,32767]
theorem impl_ReadProfile.tab29 : rtab .any (opsOf Tryd.f7 29) = impl_ReadProfile.T29:=by kernel_rfl
theorem impl_ReadProfile.bits29 : waitsOk impl_ReadProfile.T29.2 impl_ReadProfile.B29 = true:=by kernel_rfl
set_option maxHeartbeats 8000000 in
set_option maxRecDepth 100000 in
theorem impl_ReadProfile.calls (k : Nat) (a0 : ByteArray) (r1 : Int) (r2 : Int) (r3 : List (S49)) (r4 : List (S56)) (r5 : Int) (r6 : Int) (r7 : Int) (w : World) (h : impl_ReadProfile.f k a0 = some (r1,r2,r3,r4,r5,r6,r7)) :
  Calls Tryd.prog 7 #[.string a0] w fun e w' => ∃ v2_ v3_ : Value,e = .returned (.agg #[.int .i64 r1,.int .i64 r2,v2_,v3_,.int .i64 r5,.int .i64 r6,.int .i64 r7])∧Kd.R k49 49 w' w.heap.size (fun _ => True) v2_ r3∧Kd.R k56 56 w' w.heap.size (fun _ => True) v3_ r4∧Below w.heap.size w w':=by
 have hu32:=Tryd.underlying32;have hu26:=Tryd.underlying26;have hu56:=Tryd.underlying56;have hu49:=Tryd.underlying49;have HB:=Am (Below.refl w.heap.size w);have H : (if (a0.size : Int) > 3000 then (some (1,3000,([] : List (S49)),([] : List (S56)),0,0,0)) else (impl_ReadProfile.l0 k a0 0 ([] : List (S49)) ([] : List (S56)) 0 0 0)) = some (r1,r2,r3,r4,r5,r6,r7):=h;clear h
 by_cases c2 : (a0.size : Int) > 3000
 ·rw [if_pos c2] at H;have c2b0 : decide (3000 < (a0.size : Int)) = true:=decide_eq_true c2;have c2b1 : decide (3000 < a0.size) = true:=decide_eq_true (by omega);clear c2;simp only [Option.some.injEq,Prod.mk.injEq] at H;obtain ⟨rfl,rfl,rfl,rfl,rfl,rfl,rfl⟩:=H
  go_enter Tryd.func7,Tryd.ntmps7
  go_wp2_with (first|((with_reducible refine gate_dst (N:=2) rfl ?_);refine box_event ?hg (N:=2) ?hd (cs:=#[.int .i64 0,.int .i64 0,.slice none 0 0,.slice none 0 0,.int .i64 0,.int .i64 0,.int .i64 0]) (t:=32) ?hr ?_;(case hd => rfl);(case hg => rfl);(case hr => first|(go_simp;done)|(go_simp;rfl));intro gb304 hg w3 hbox hb;have n0_:=Am (below_step (bL HB) hb);have n1_:=Am (hbox);have n2_:=Am ((gS_ hg HB));have n3_:=Am ((gS_ hg HB));clear HB;have HB:=n0_;have BK304:=n1_;have GW304:=n2_;have GE304:=n3_;clear n0_ n1_ n2_ n3_;clear hb hbox hg;have hcz4_0:=cC_ BK304 0 rfl;have hcz4_1:=cC_ BK304 1 rfl;have hcz4_2:=cC_ BK304 2 rfl;have hcz4_3:=cC_ BK304 3 rfl;have hcz4_4:=cC_ BK304 4 rfl;have hcz4_5:=cC_ BK304 5 rfl;have hcz4_6:=cC_ BK304 6 rfl;have hfz4_0:=kF BK304.out 0;have hfz4_1:=kF BK304.out 1;have hfz4_2:=kF BK304.out 2;have hfz4_3:=kF BK304.out 3;have hfz4_4:=kF BK304.out 4;have hfz4_5:=kF BK304.out 5;have hfz4_6:=kF BK304.out 6))
  refine bodyPost_ret (results_cell_row rfl _ _ gb304 32 #[.int .i64 1,.int .i64 3000,.slice none 0 0,.slice none 0 0,.int .i64 0,.int .i64 0,.int .i64 0] (0,0) _ rfl (by (with_reducible repeat (first|refine kN ?_ _|refine kD ?_|refine kA ?_ _));refine blk_put (cs:=#[.int .i64 1,.int .i64 3000,.slice none 0 0,.slice none 0 0,.int .i64 0,.int .i64 0,.int .i64 0]) ?_ 6 _ rfl;(with_reducible repeat (first|refine kN ?_ _|refine kD ?_|refine kA ?_ _));refine blk_put (cs:=#[.int .i64 1,.int .i64 3000,.slice none 0 0,.slice none 0 0,.int .i64 0,.int .i64 0,.int .i64 0]) ?_ 5 _ rfl;(with_reducible repeat (first|refine kN ?_ _|refine kD ?_|refine kA ?_ _));refine blk_put (cs:=#[.int .i64 1,.int .i64 3000,.slice none 0 0,.slice none 0 0,.int .i64 0,.int .i64 0,.int .i64 0]) ?_ 4 _ rfl;(with_reducible repeat (first|refine kN ?_ _|refine kD ?_|refine kA ?_ _));refine blk_put (cs:=#[.int .i64 1,.int .i64 3000,.slice none 0 0,.slice none 0 0,.int .i64 0,.int .i64 0,.int .i64 0]) ?_ 3 _ rfl;(with_reducible repeat (first|refine kN ?_ _|refine kD ?_|refine kA ?_ _));refine blk_put (cs:=#[.int .i64 1,.int .i64 3000,.slice none 0 0,.slice none 0 0,.int .i64 0,.int .i64 0,.int .i64 0]) ?_ 2 _ rfl;(with_reducible repeat (first|refine kN ?_ _|refine kD ?_|refine kA ?_ _));refine blk_put (cs:=#[.int .i64 1,.int .i64 0,.slice none 0 0,.slice none 0 0,.int .i64 0,.int .i64 0,.int .i64 0]) ?_ 1 _ rfl;(with_reducible repeat (first|refine kN ?_ _|refine kD ?_|refine kA ?_ _));refine blk_put (cs:=#[.int .i64 0,.int .i64 0,.slice none 0 0,.slice none 0 0,.int .i64 0,.int .i64 0,.int .i64 0]) ?_ 0 _ rfl;(with_reducible repeat (first|refine kN ?_ _|refine kD ?_|refine kA ?_ _));exact BK304.out) Tryd.underlying32 rfl (by kernel_rfl)) rfl ?_;exact ⟨_,_,eL_,by first|exact Kd.R_nil _ _ _ _ _|exact Kd.N_nil _ _ _ _ _|exact Kd.V_nil _ _ _ _ _|exact Kd.Q_nil _ _ _ _ _|exact Kd.S_nil _ _ _ _ _,by first|exact Kd.R_nil _ _ _ _ _|exact Kd.N_nil _ _ _ _ _|exact Kd.V_nil _ _ _ _ _|exact Kd.Q_nil _ _ _ _ _|exact Kd.S_nil _ _ _ _ _,bL HB⟩
 ·rw [if_neg c2] at H;have c2b0 : decide (3000 < (a0.size : Int)) = false:=decide_eq_false c2;have c2b1 : decide (3000 < a0.size) = false:=decide_eq_false (by omega);clear c2;have H':=Am H;clear H
  go_enter Tryd.func7,Tryd.ntmps7
  go_wp2_with (first|((with_reducible refine gate_dst (N:=2) rfl ?_);refine box_event ?hg (N:=2) ?hd (cs:=#[.int .i64 0,.int .i64 0,.slice none 0 0,.slice none 0 0,.int .i64 0,.int .i64 0,.int .i64 0]) (t:=32) ?hr ?_;(case hd => rfl);(case hg => rfl);(case hr => first|(go_simp;done)|(go_simp;rfl));intro gb304 hg w5 hbox hb;have n0_:=Am (below_step (bL HB) hb);have n1_:=Am (hbox);have n2_:=Am ((gS_ hg HB));have n3_:=Am ((gS_ hg HB));clear HB;have HB:=n0_;have BK304:=n1_;have GW304:=n2_;have GE304:=n3_;clear n0_ n1_ n2_ n3_;clear hb hbox hg)|((with_reducible refine gate_dst (N:=3) rfl ?_);refine box_event ?hg (N:=3) ?hd (cs:=#[.slice none 0 0,.slice none 0 0,.int .i64 0,.int .i64 0,.int .i64 0]) (t:=26) ?hr ?_;(case hd => rfl);(case hg => rfl);(case hr => first|(go_simp;done)|(go_simp;rfl));intro gb305 hg w6 hbox hb;have n0_:=Am (blk_below (g:=gb304) (o:=.cells #[.int .i64 0,.int .i64 0,.slice none 0 0,.slice none 0 0,.int .i64 0,.int .i64 0,.int .i64 0] 32 (0,0)) (kL BK304) hb);have n1_:=Am (below_step (bL HB) hb);have n2_:=Am (hbox);have n3_:=Am ((gS_ hg HB));have n4_:=Am ((gS_ hg HB));have n5_:=Am ((gM_ hg BK304));have n6_:=Am ((gN_ hg BK304));clear BK304;clear HB;have BK304:=n0_;have HB:=n1_;have BK305:=n2_;have GW305:=n3_;have GE305:=n4_;have NB304_305:=n5_;have NB305_304:=n6_;clear n0_ n1_ n2_ n3_ n4_ n5_ n6_;clear hb hbox hg))
  go_loopg [4] k (fun kq v4 w' => ∃ (x4_1 : Int) (x305000_1 : Int) (x305001_1 : Int) (x305004_1 : Int) (x305005_1 : Int) (x305006_1 : Int) (x306000_1 : List (S49)) (x306001_1 : List (S56)) (x306002_1 : Int) (x306003_1 : Int) (x306004_1 : Int) (u306000 : Value) (u306001 : Value),v4 = .int .i64 x4_1∧As (impl_ReadProfile.l0 kq a0 x4_1 x306000_1 x306001_1 x306002_1 x306003_1 x306004_1 = some (r1,r2,r3,r4,r5,r6,r7))∧As (kq ≤ k)∧As (Kd.R k49 49 w' w.heap.size (fun _ => True) u306000 x306000_1)∧As (Kd.R k56 56 w' w.heap.size (fun _ => True) u306001 x306001_1)∧As (w'.heap[gb304]? = some (.cells #[.int .i64 x305000_1,.int .i64 x305001_1,(.slice none 0 0),(.slice none 0 0),.int .i64 x305004_1,.int .i64 x305005_1,.int .i64 x305006_1] 32 (0,0)))∧As (w'.heap[gb305]? = some (.cells #[u306000,u306001,.int .i64 x306002_1,.int .i64 x306003_1,.int .i64 x306004_1] 26 (0,0)))∧As (Below w.heap.size w w'))
  case atStart => exact ⟨(0),(0),(0),(0),(0),(0),(([] : List (S49))),(([] : List (S56))),(0),(0),(0),(.slice none 0 0),(.slice none 0 0),vL_,H',⟨Nat.le_refl _⟩,⟨by first|exact Kd.R_nil _ _ _ _ _|exact Kd.N_nil _ _ _ _ _|exact Kd.V_nil _ _ _ _ _|exact Kd.Q_nil _ _ _ _ _|exact Kd.S_nil _ _ _ _ _⟩,⟨by first|exact Kd.R_nil _ _ _ _ _|exact Kd.N_nil _ _ _ _ _|exact Kd.V_nil _ _ _ _ _|exact Kd.Q_nil _ _ _ _ _|exact Kd.S_nil _ _ _ _ _⟩,⟨kL BK304⟩,⟨kL BK305⟩,⟨bL HB⟩⟩
  case round =>
   clear H';(try clear c2);(try clear c2b0);(try clear c2b1);(try clear p2);(try clear hcz4_0 hcz4_1 hcz4_2 hcz4_3 hcz4_4 hcz4_5 hcz4_6 hfz4_0 hfz4_1 hfz4_2 hfz4_3 hfz4_4 hfz4_5 hfz4_6);obtain ⟨x4_1,x305000_1,x305001_1,x305004_1,x305005_1,x305006_1,x306000_1,x306001_1,x306002_1,x306003_1,x306004_1,u306000,u306001,rfl,HA,HK1,HO_306000,HO_306001,BK304,BK305,HB⟩:=hrel
   cases gk with
   | zero => exact absurd HA.out (by simp [impl_ReadProfile.l0])
   | succ k1 =>
    have H:=HA.out;clear HA;simp only [impl_ReadProfile.l0] at H
    obtain ⟨y306,hy306⟩ : ∃ y_ : List ByteArray,y_ = (([(⟨#[116,114,97,99,107,32,35,32,98,114,97,107,101,32,35,10]⟩ : ByteArray)] : List ByteArray)):=⟨_,rfl⟩
    replace H : (if (x306001_1.length : Int) > 0 then (impl_ReadProfile.j1 k1 a0 x4_1 (([(⟨#[108,105,109,105,116,32,35,32,35,32,35,10]⟩ : ByteArray),(⟨#[116,114,97,105,110,32,35,32,101,110,100,32,35,32,100,101,108,97,121,32,35,10]⟩ : ByteArray)] : List ByteArray)) x306000_1 x306001_1 x306002_1 x306003_1 x306004_1) else (if (x306000_1.length : Int) > 0 then ((some (([(⟨#[108,105,109,105,116,32,35,32,35,32,35,10]⟩ : ByteArray),(⟨#[116,114,97,105,110,32,35,32,101,110,100,32,35,32,100,101,108,97,121,32,35,10]⟩ : ByteArray)] : List ByteArray) : List ByteArray)).bind fun y312 => (if y306.length + y312.length < 8796093022208 then (impl_ReadProfile.j1 k1 a0 x4_1 (y306 ++ y312) x306000_1 x306001_1 x306002_1 x306003_1 x306004_1) else (none))) else (impl_ReadProfile.j1 k1 a0 x4_1 y306 x306000_1 x306001_1 x306002_1 x306003_1 x306004_1))) = some (r1,r2,r3,r4,r5,r6,r7):=by first|(rw [hy306];with_reducible exact H)|(have H2_:=(Option.bind_some _ _).symm.trans H;rw [hy306];with_reducible exact H2_)|(have H2_:=(Option.bind_some _ _).symm.trans H;with_reducible exact H2_)|with_reducible exact H|(rw [hy306];exact H)|exact H
    have Ny306:=Am hy306;clear hy306;have HC7:=Am H;clear H
    go_upto_block 2 with (first|((with_reducible refine gate_dst (N:=18) rfl ?_);refine Kd.R_lit Kd.string _ 9 ?hg (N:=18) ?hd (xs:=([(⟨#[116,114,97,99,107,32,35,32,98,114,97,107,101,32,35,10]⟩ : ByteArray)] : List ByteArray)) (inner:=[.string (⟨#[116,114,97,99,107,32,35,32,98,114,97,107,101,32,35,10]⟩ : ByteArray)]) (ok:=fun _ => True) (okp:=fun _ => True) ?hr ?hp (fun _ hk => hk) trivial (Below.refl _ _) (Nat.le_refl _) (by simp) ?_;(case hd => rfl);(case hg => rfl);(case hr => first|(go_simp;done)|(go_simp;rfl));(case hp => exact (Reps.one (show Kd.M Kd.string _ _ _ (⟨#[116,114,97,99,107,32,35,32,98,114,97,107,101,32,35,10]⟩ : ByteArray) [.string (⟨#[116,114,97,99,107,32,35,32,98,114,97,107,101,32,35,10]⟩ : ByteArray)] from rfl) (Reps.none _ _)));intro v307 w8 ho9 hb hg_ hnew_;clear hg_ hnew_;(first|rw [← Ny306.out] at ho9|(simp only [Int.reduceToNat] at ho9;rw [← Ny306.out] at ho9));have n0_:=Am (Kd.R_below (rL HO_306000) hb);have n1_:=Am (Kd.R_below (rL HO_306001) hb);have n2_:=Am (Kd.R_lower ho9 (below_size (bL HB)));have n3_:=Am (blk_below (g:=gb304) (o:=.cells #[.int .i64 x305000_1,.int .i64 x305001_1,.slice none 0 0,.slice none 0 0,.int .i64 x305004_1,.int .i64 x305005_1,.int .i64 x305006_1] 32 (0,0)) (kL BK304) hb);have n4_:=Am (blk_below (g:=gb305) (o:=.cells #[u306000,u306001,.int .i64 x306002_1,.int .i64 x306003_1,.int .i64 x306004_1] 26 (0,0)) (kL BK305) hb);have n5_:=Am (below_step (bL HB) hb);clear HO_306000;clear HO_306001;clear BK304;clear BK305;clear HB;have HO_306000:=n0_;have HO_306001:=n1_;have HO308:=n2_;have BK304:=n3_;have BK305:=n4_;have HB:=n5_;clear n0_ n1_ n2_ n3_ n4_ n5_;clear hb ho9))
    (try simp only [Act.put,List.setIfInBounds_toArray,List.set_cons_zero,List.set_cons_succ])
    go_cut [5] (fun v5 wc => ∃ (kq : Nat) (x5_6 : List ByteArray),As (impl_ReadProfile.j1 kq a0 x4_1 x5_6 x306000_1 x306001_1 x306002_1 x306003_1 x306004_1 = some (r1,r2,r3,r4,r5,r6,r7))∧As (kq ≤ k1)∧As (Kd.R Kd.string 9 wc w.heap.size (fun _ => True) v5 x5_6)∧As (Kd.R k49 49 wc w.heap.size (fun _ => True) u306000 x306000_1)∧As (Kd.R k56 56 wc w.heap.size (fun _ => True) u306001 x306001_1)∧As (wc.heap[gb304]? = some (.cells #[.int .i64 x305000_1,.int .i64 x305001_1,(.slice none 0 0),(.slice none 0 0),.int .i64 x305004_1,.int .i64 x305005_1,.int .i64 x305006_1] 32 (0,0)))∧As (wc.heap[gb305]? = some (.cells #[u306000,u306001,.int .i64 x306002_1,.int .i64 x306003_1,.int .i64 x306004_1] 26 (0,0)))∧As (Below w.heap.size w wc))
    case first =>
     have H:=HC7.out;clear HC7
     by_cases c10 : (x306001_1.length : Int) > 0
     ·rw [if_pos c10] at H;have c10b0 : decide (0 < (x306001_1.length : Int)) = true:=decide_eq_true c10;have c10b1 : decide (0 < x306001_1.length) = true:=decide_eq_true (by omega);clear c10
      (first|rw [c10b0]|(simp only [i64_w,i32_w];rw [c10b0])|skip)
      obtain ⟨y309,hy309⟩ : ∃ y_ : List ByteArray,y_ = (([(⟨#[108,105,109,105,116,32,35,32,35,32,35,10]⟩ : ByteArray),(⟨#[116,114,97,105,110,32,35,32,101,110,100,32,35,32,100,101,108,97,121,32,35,10]⟩ : ByteArray)] : List ByteArray)):=⟨_,rfl⟩
      replace H : (impl_ReadProfile.j1 k1 a0 x4_1 y309 x306000_1 x306001_1 x306002_1 x306003_1 x306004_1) = some (r1,r2,r3,r4,r5,r6,r7):=by first|(rw [hy309];with_reducible exact H)|(have H2_:=(Option.bind_some _ _).symm.trans H;rw [hy309];with_reducible exact H2_)|(have H2_:=(Option.bind_some _ _).symm.trans H;with_reducible exact H2_)|with_reducible exact H|(rw [hy309];exact H)|exact H
      have Ny309:=Am hy309;clear hy309;have H':=Am H;clear H;have hnb11:=NB305_304.out;have hnc11:=NB304_305.out;have hcz12_0:=cC_ BK305 0 rfl;have hcz12_1:=cC_ BK305 1 rfl;have hcz12_2:=cC_ BK305 2 rfl;have hcz12_3:=cC_ BK305 3 rfl;have hcz12_4:=cC_ BK305 4 rfl;have hfz12_0:=kF BK305.out 0;have hfz12_1:=kF BK305.out 1;have hfz12_2:=kF BK305.out 2;have hfz12_3:=kF BK305.out 3;have hfz12_4:=kF BK305.out 4;obtain ⟨Ao13,co13,eo13⟩:=Kd.R_slice HO_306001.out;subst eo13
      go_wp2_with (first|((with_reducible refine gate_dst (N:=24) rfl ?_);refine Kd.R_lit Kd.string _ 9 ?hg (N:=24) ?hd (xs:=([(⟨#[108,105,109,105,116,32,35,32,35,32,35,10]⟩ : ByteArray),(⟨#[116,114,97,105,110,32,35,32,101,110,100,32,35,32,100,101,108,97,121,32,35,10]⟩ : ByteArray)] : List ByteArray)) (inner:=[.string (⟨#[108,105,109,105,116,32,35,32,35,32,35,10]⟩ : ByteArray),.string (⟨#[116,114,97,105,110,32,35,32,101,110,100,32,35,32,100,101,108,97,121,32,35,10]⟩ : ByteArray)]) (ok:=fun _ => True) (okp:=fun _ => True) ?hr ?hp (fun _ hk => hk) trivial (Below.refl _ _) (Nat.le_refl _) (by simp) ?_;(case hd => rfl);(case hg => rfl);(case hr => first|(go_simp;done)|(go_simp;rfl));(case hp => exact (Reps.one (show Kd.M Kd.string _ _ _ (⟨#[108,105,109,105,116,32,35,32,35,32,35,10]⟩ : ByteArray) [.string (⟨#[108,105,109,105,116,32,35,32,35,32,35,10]⟩ : ByteArray)] from rfl) (Reps.one (show Kd.M Kd.string _ _ _ (⟨#[116,114,97,105,110,32,35,32,101,110,100,32,35,32,100,101,108,97,121,32,35,10]⟩ : ByteArray) [.string (⟨#[116,114,97,105,110,32,35,32,101,110,100,32,35,32,100,101,108,97,121,32,35,10]⟩ : ByteArray)] from rfl) (Reps.none _ _))));intro v310 w14 ho15 hb hg_ hnew_;clear hg_ hnew_;(first|rw [← Ny309.out] at ho15|(simp only [Int.reduceToNat] at ho15;rw [← Ny309.out] at ho15));have n0_:=Am (Kd.R_below (rL HO_306000) hb);have n1_:=Am (Kd.R_below (rL HO_306001) hb);have n2_:=Am (Kd.R_elder' (rL HO308) (Kd.R_base ho15) hb);have n3_:=Am (Kd.R_lower (Kd.R_new' ho15 (Kd.R_lt (rL HO308))) (below_size (bL HB)));have n4_:=Am (blk_below (g:=gb304) (o:=.cells #[.int .i64 x305000_1,.int .i64 x305001_1,.slice none 0 0,.slice none 0 0,.int .i64 x305004_1,.int .i64 x305005_1,.int .i64 x305006_1] 32 (0,0)) (kL BK304) hb);have n5_:=Am (blk_below (g:=gb305) (o:=.cells #[u306000,.slice Ao13 x306001_1.length co13,.int .i64 x306002_1,.int .i64 x306003_1,.int .i64 x306004_1] 26 (0,0)) (kL BK305) hb);have n6_:=Am (below_step (bL HB) hb);clear HO_306000;clear HO_306001;clear HO308;clear BK304;clear BK305;clear HB;have HO_306000:=n0_;have HO_306001:=n1_;have HO308:=n2_;have HO311:=n3_;have BK304:=n4_;have BK305:=n5_;have HB:=n6_;clear n0_ n1_ n2_ n3_ n4_ n5_ n6_;clear hb ho15))
      go_meet
      case rel => exact ⟨_,(y309),H',⟨by have:=HK1.out;first|omega|exact Nat.le_refl _⟩,⟨by (with_reducible repeat (first|apply Kd.R_alloc|apply Kd.R_drewN|apply Kd.R_drew));exact Kd.R_mono HO311.out (fun _ hk => trivial)⟩,⟨by (with_reducible repeat (first|apply Kd.R_alloc|apply Kd.R_drewN|apply Kd.R_drew));exact HO_306000.out⟩,⟨by (with_reducible repeat (first|apply Kd.R_alloc|apply Kd.R_drewN|apply Kd.R_drew));exact HO_306001.out⟩,⟨kL BK304⟩,⟨kL BK305⟩,⟨bL HB⟩⟩
     ·rw [if_neg c10] at H;have c10b0 : decide (0 < (x306001_1.length : Int)) = false:=decide_eq_false c10;have c10b1 : decide (0 < x306001_1.length) = false:=decide_eq_false (by omega);clear c10
      (first|rw [c10b0]|(simp only [i64_w,i32_w];rw [c10b0])|skip)
      by_cases c16 : (x306000_1.length : Int) > 0
      ·rw [if_pos c16] at H;have c16b0 : decide (0 < (x306000_1.length : Int)) = true:=decide_eq_true c16;have c16b1 : decide (0 < x306000_1.length) = true:=decide_eq_true (by omega);clear c16
       obtain ⟨y312,hy312⟩ : ∃ y_ : List ByteArray,y_ = (([(⟨#[108,105,109,105,116,32,35,32,35,32,35,10]⟩ : ByteArray),(⟨#[116,114,97,105,110,32,35,32,101,110,100,32,35,32,100,101,108,97,121,32,35,10]⟩ : ByteArray)] : List ByteArray)):=⟨_,rfl⟩
       replace H : (if y306.length + y312.length < 8796093022208 then (impl_ReadProfile.j1 k1 a0 x4_1 (y306 ++ y312) x306000_1 x306001_1 x306002_1 x306003_1 x306004_1) else (none)) = some (r1,r2,r3,r4,r5,r6,r7):=by first|(rw [hy312];with_reducible exact H)|(have H2_:=(Option.bind_some _ _).symm.trans H;rw [hy312];with_reducible exact H2_)|(have H2_:=(Option.bind_some _ _).symm.trans H;with_reducible exact H2_)|with_reducible exact H|(rw [hy312];exact H)|exact H
       have Ny312:=Am hy312;clear hy312
       by_cases c17 : y306.length + y312.length < 8796093022208
       ·rw [if_pos c17] at H;have LMc17:=Am c17;clear c17
        obtain ⟨y315,hy315⟩ : ∃ y_ : List ByteArray,y_ = (y306 ++ y312):=⟨_,rfl⟩
        replace H : (impl_ReadProfile.j1 k1 a0 x4_1 y315 x306000_1 x306001_1 x306002_1 x306003_1 x306004_1) = some (r1,r2,r3,r4,r5,r6,r7):=by first|(rw [hy315];with_reducible exact H)|(have H2_:=(Option.bind_some _ _).symm.trans H;rw [hy315];with_reducible exact H2_)|(have H2_:=(Option.bind_some _ _).symm.trans H;with_reducible exact H2_)|with_reducible exact H|(rw [hy315];exact H)|exact H
        have Ny315:=Am hy315;clear hy315;have H':=Am H;clear H;have hnb18:=NB305_304.out;have hnc18:=NB304_305.out;have hcz19_0:=cC_ BK305 0 rfl;have hcz19_1:=cC_ BK305 1 rfl;have hcz19_2:=cC_ BK305 2 rfl;have hcz19_3:=cC_ BK305 3 rfl;have hcz19_4:=cC_ BK305 4 rfl;have hfz19_0:=kF BK305.out 0;have hfz19_1:=kF BK305.out 1;have hfz19_2:=kF BK305.out 2;have hfz19_3:=kF BK305.out 3;have hfz19_4:=kF BK305.out 4;obtain ⟨Ao20,co20,eo20⟩:=Kd.R_slice HO_306001.out;subst eo20;obtain ⟨Ao21,co21,eo21⟩:=Kd.R_slice HO_306000.out;subst eo21
        go_wp2_with (first|((with_reducible refine gate_dst (N:=31) rfl ?_);refine Kd.R_lit Kd.string _ 9 ?hg (N:=31) ?hd (xs:=([(⟨#[108,105,109,105,116,32,35,32,35,32,35,10]⟩ : ByteArray),(⟨#[116,114,97,105,110,32,35,32,101,110,100,32,35,32,100,101,108,97,121,32,35,10]⟩ : ByteArray)] : List ByteArray)) (inner:=[.string (⟨#[108,105,109,105,116,32,35,32,35,32,35,10]⟩ : ByteArray),.string (⟨#[116,114,97,105,110,32,35,32,101,110,100,32,35,32,100,101,108,97,121,32,35,10]⟩ : ByteArray)]) (ok:=fun _ => True) (okp:=fun _ => True) ?hr ?hp (fun _ hk => hk) trivial (Below.refl _ _) (Nat.le_refl _) (by simp) ?_;(case hd => rfl);(case hg => rfl);(case hr => first|(go_simp;done)|(go_simp;rfl));(case hp => exact (Reps.one (show Kd.M Kd.string _ _ _ (⟨#[108,105,109,105,116,32,35,32,35,32,35,10]⟩ : ByteArray) [.string (⟨#[108,105,109,105,116,32,35,32,35,32,35,10]⟩ : ByteArray)] from rfl) (Reps.one (show Kd.M Kd.string _ _ _ (⟨#[116,114,97,105,110,32,35,32,101,110,100,32,35,32,100,101,108,97,121,32,35,10]⟩ : ByteArray) [.string (⟨#[116,114,97,105,110,32,35,32,101,110,100,32,35,32,100,101,108,97,121,32,35,10]⟩ : ByteArray)] from rfl) (Reps.none _ _))));intro v313 w22 ho23 hb hg_ hnew_;clear hg_ hnew_;(first|rw [← Ny312.out] at ho23|(simp only [Int.reduceToNat] at ho23;rw [← Ny312.out] at ho23));have n0_:=Am (Kd.R_below (rL HO_306000) hb);have n1_:=Am (Kd.R_below (rL HO_306001) hb);have n2_:=Am (Kd.R_elder' (rL HO308) (Kd.R_base ho23) hb);have n3_:=Am (Kd.R_lower (Kd.R_new' ho23 (Kd.R_lt (rL HO308))) (below_size (bL HB)));have n4_:=Am (blk_below (g:=gb304) (o:=.cells #[.int .i64 x305000_1,.int .i64 x305001_1,.slice none 0 0,.slice none 0 0,.int .i64 x305004_1,.int .i64 x305005_1,.int .i64 x305006_1] 32 (0,0)) (kL BK304) hb);have n5_:=Am (blk_below (g:=gb305) (o:=.cells #[.slice Ao21 x306000_1.length co21,.slice Ao20 x306001_1.length co20,.int .i64 x306002_1,.int .i64 x306003_1,.int .i64 x306004_1] 26 (0,0)) (kL BK305) hb);have n6_:=Am (below_step (bL HB) hb);clear HO_306000;clear HO_306001;clear HO308;clear BK304;clear BK305;clear HB;have HO_306000:=n0_;have HO_306001:=n1_;have HO308:=n2_;have HO314:=n3_;have BK304:=n4_;have BK305:=n5_;have HB:=n6_;clear n0_ n1_ n2_ n3_ n4_ n5_ n6_;clear hb ho23;obtain ⟨Ao25,co25,eo25⟩:=Kd.R_slice HO314.out;subst eo25)|((with_reducible refine gate_builtin (b:=.append) (xs:=#[.tmp 30,.tmp 31]) rfl ?_);at_builtin;refine Kd.R_append_rows Kd.string (w0:=w) w.heap.size rfl (.tmp 30) (.tmp 31) 59 9 (.string ⟨#[]⟩) 16 rfl Tryd.underlying59 info9 rfl (by decide) (by omega) v307 y306 y312 _ _ _ (fun k_ => some k_ ≠ (.slice Ao25 y312.length co25 : Value).ownBlock) (fun _ => False) rfl rfl ?aO ?aR (fun _ _ h => h) (fun _ h => h.elim) ?aF ?aB ?aS ?aL ?_;(case aR => repeat (first|exact (Kd.R_reads' HO314.out).2.2|(with_reducible refine Kd.C_alloc ?_ _)|(with_reducible refine Kd.C_drewN ?_ _)|(with_reducible refine Kd.C_drew ?_)));(case aB => exact (bL HB));(case aF => exact (fun k_ hk => Kd.fresh' (Kd.R_lt (rL HO314)) k_ hk));(case aO => exact (by (with_reducible repeat (first|apply Kd.R_alloc|apply Kd.R_drewN|apply Kd.R_drew));exact Kd.R_mono HO308.out (fun _ hk => hk.2)));(case aS => exact (below_size (bL HB)));(case aL => have:=LMc17.out;omega);intro v316 w24 ho hb hg hat;rw [← Ny315.out] at ho;have n0_:=Am (Kd.R_over' (rL HO_306000) (Kd.R_typed (rL HO308)) (by decide) hg);have n1_:=Am (Kd.R_over' (rL HO_306001) (Kd.R_typed (rL HO308)) (by decide) hg);have n2_:=Am (blk_grown (g:=gb304) (o:=.cells #[.int .i64 x305000_1,.int .i64 x305001_1,.slice none 0 0,.slice none 0 0,.int .i64 x305004_1,.int .i64 x305005_1,.int .i64 x305006_1] 32 (0,0)) (kL BK304) hg (Kd.R_ne HO308.out BK304.out (by decide)));have n3_:=Am (blk_grown (g:=gb305) (o:=.cells #[.slice Ao21 x306000_1.length co21,.slice Ao20 x306001_1.length co20,.int .i64 x306002_1,.int .i64 x306003_1,.int .i64 x306004_1] 26 (0,0)) (kL BK305) hg (Kd.R_ne HO308.out BK305.out (by decide)));have n4_:=Am (Kd.R_after (ok:=(fun _ => True)) (rL HO314) hg hat);have n5_:=Am (hb);have n6_:=Am (ho);clear HO_306000;clear HO_306001;clear BK304;clear BK305;clear HO314;clear HB;clear HO308;have HO_306000:=n0_;have HO_306001:=n1_;have BK304:=n2_;have BK305:=n3_;have HO314:=n4_;have HB:=n5_;have HO317:=n6_;clear n0_ n1_ n2_ n3_ n4_ n5_ n6_;clear ho hb hg hat))
        go_meet
        case rel => exact ⟨_,(y315),H',⟨by have:=HK1.out;first|omega|exact Nat.le_refl _⟩,⟨by (with_reducible repeat (first|apply Kd.R_alloc|apply Kd.R_drewN|apply Kd.R_drew));exact Kd.R_mono HO317.out (fun _ hk => trivial)⟩,⟨by (with_reducible repeat (first|apply Kd.R_alloc|apply Kd.R_drewN|apply Kd.R_drew));exact HO_306000.out⟩,⟨by (with_reducible repeat (first|apply Kd.R_alloc|apply Kd.R_drewN|apply Kd.R_drew));exact HO_306001.out⟩,⟨kL BK304⟩,⟨kL BK305⟩,⟨bL HB⟩⟩
       ·rw [if_neg c17] at H;exact absurd H (by simp)
      ·rw [if_neg c16] at H;have c16b0 : decide (0 < (x306000_1.length : Int)) = false:=decide_eq_false c16;have c16b1 : decide (0 < x306000_1.length) = false:=decide_eq_false (by omega);clear c16;have H':=Am H;clear H;have hnb26:=NB305_304.out;have hnc26:=NB304_305.out;have hcz27_0:=cC_ BK305 0 rfl;have hcz27_1:=cC_ BK305 1 rfl;have hcz27_2:=cC_ BK305 2 rfl;have hcz27_3:=cC_ BK305 3 rfl;have hcz27_4:=cC_ BK305 4 rfl;have hfz27_0:=kF BK305.out 0;have hfz27_1:=kF BK305.out 1;have hfz27_2:=kF BK305.out 2;have hfz27_3:=kF BK305.out 3;have hfz27_4:=kF BK305.out 4;obtain ⟨Ao28,co28,eo28⟩:=Kd.R_slice HO_306001.out;subst eo28;obtain ⟨Ao29,co29,eo29⟩:=Kd.R_slice HO_306000.out;subst eo29;go_wp2
       go_meet
       case rel => exact ⟨_,(y306),H',⟨by have:=HK1.out;first|omega|exact Nat.le_refl _⟩,⟨by (with_reducible repeat (first|apply Kd.R_alloc|apply Kd.R_drewN|apply Kd.R_drew));exact HO308.out⟩,⟨by (with_reducible repeat (first|apply Kd.R_alloc|apply Kd.R_drewN|apply Kd.R_drew));exact HO_306000.out⟩,⟨by (with_reducible repeat (first|apply Kd.R_alloc|apply Kd.R_drewN|apply Kd.R_drew));exact HO_306001.out⟩,⟨kL BK304⟩,⟨kL BK305⟩,⟨bL HB⟩⟩
    case rest =>
     clear HC7;(try clear c1);(try clear c2);(try clear c2b0);(try clear c2b1);(try clear p2);(try clear c7);(try clear c10);(try clear c10b0);(try clear c10b1);(try clear c11);(try clear c16);(try clear c16b0);(try clear c16b1);(try clear c17);(try clear c18);(try clear c26);(try clear hcz12_0 hcz12_1 hcz12_2 hcz12_3 hcz12_4 hcz19_0 hcz19_1 hcz19_2 hcz19_3 hcz19_4 hcz27_0 hcz27_1 hcz27_2 hcz27_3 hcz27_4 hcz4_0 hcz4_1 hcz4_2 hcz4_3 hcz4_4 hcz4_5 hcz4_6 hfz12_0 hfz12_1 hfz12_2 hfz12_3 hfz12_4 hfz19_0 hfz19_1 hfz19_2 hfz19_3 hfz19_4 hfz27_0 hfz27_1 hfz27_2 hfz27_3 hfz27_4 hfz4_0 hfz4_1 hfz4_2 hfz4_3 hfz4_4 hfz4_5 hfz4_6);(try clear p2);obtain ⟨kq,x5_6,HA,HJ6,HO_5,HO_306000,HO_306001,BK304,BK305,HB⟩:=hcut
     cases kq with
     | zero => exact absurd HA.out (by simp [impl_ReadProfile.j1])
     | succ kj6 =>
      have H:=HA.out;clear HA;simp only [impl_ReadProfile.j1] at H;have H':=Am H;clear H;obtain ⟨Ao30,co30,eo30⟩:=Kd.R_slice HO_5.out;subst eo30;go_wp2
      go_loopg [6,7,36] kj6 (fun kq v6 v7 v36 w' => ∃ (x6_3 : Int) (x7_3 : Bool) (x36_3 : Int) (x305000_3 : Int) (x305001_3 : Int) (x305004_3 : Int) (x305005_3 : Int) (x305006_3 : Int) (x306000_3 : List (S49)) (x306001_3 : List (S56)) (x306002_3 : Int) (x306003_3 : Int) (x306004_3 : Int) (u306000 : Value) (u306001 : Value),v6 = .int .i64 x6_3∧v7 = .bool x7_3∧v36 = .int .i64 x36_3∧As (impl_ReadProfile.l1 kq a0 x4_1 x6_3 x7_3 x5_6 (x5_6.length : Int) x36_3 x306000_3 x306001_3 x306002_3 x306003_3 x306004_3 = some (r1,r2,r3,r4,r5,r6,r7))∧As (kq ≤ kj6)∧As (Kd.R Kd.string 9 w' w.heap.size (fun _ => True) (.slice Ao30 x5_6.length co30) x5_6)∧As (Kd.R k49 49 w' w.heap.size (fun _ => True) u306000 x306000_3)∧As (Kd.R k56 56 w' w.heap.size (fun _ => True) u306001 x306001_3)∧As (w'.heap[gb304]? = some (.cells #[.int .i64 x305000_3,.int .i64 x305001_3,(.slice none 0 0),(.slice none 0 0),.int .i64 x305004_3,.int .i64 x305005_3,.int .i64 x305006_3] 32 (0,0)))∧As (w'.heap[gb305]? = some (.cells #[u306000,u306001,.int .i64 x306002_3,.int .i64 x306003_3,.int .i64 x306004_3] 26 (0,0)))∧As (Below w.heap.size w w'))
      case atStart => exact ⟨(x4_1),(false),(0),(x305000_1),(x305001_1),(x305004_1),(x305005_1),(x305006_1),(x306000_1),(x306001_1),(x306002_1),(x306003_1),(x306004_1),(u306000),(u306001),vL_,vL_,vL_,H',⟨Nat.le_refl _⟩,⟨by (with_reducible repeat (first|apply Kd.R_alloc|apply Kd.R_drewN|apply Kd.R_drew));exact HO_5.out⟩,⟨by (with_reducible repeat (first|apply Kd.R_alloc|apply Kd.R_drewN|apply Kd.R_drew));exact HO_306000.out⟩,⟨by (with_reducible repeat (first|apply Kd.R_alloc|apply Kd.R_drewN|apply Kd.R_drew));exact HO_306001.out⟩,⟨kL BK304⟩,⟨kL BK305⟩,⟨bL HB⟩⟩
      case round =>
       clear H';(try clear c1);(try clear c2);(try clear c2b0);(try clear c2b1);(try clear p2);(try clear c7);(try clear c10);(try clear c10b0);(try clear c10b1);(try clear c11);(try clear c16);(try clear c16b0);(try clear c16b1);(try clear c17);(try clear c18);(try clear c26);(try clear hcz12_0 hcz12_1 hcz12_2 hcz12_3 hcz12_4 hcz19_0 hcz19_1 hcz19_2 hcz19_3 hcz19_4 hcz27_0 hcz27_1 hcz27_2 hcz27_3 hcz27_4 hcz4_0 hcz4_1 hcz4_2 hcz4_3 hcz4_4 hcz4_5 hcz4_6 hfz12_0 hfz12_1 hfz12_2 hfz12_3 hfz12_4 hfz19_0 hfz19_1 hfz19_2 hfz19_3 hfz19_4 hfz27_0 hfz27_1 hfz27_2 hfz27_3 hfz27_4 hfz4_0 hfz4_1 hfz4_2 hfz4_3 hfz4_4 hfz4_5 hfz4_6);(try clear p2);obtain ⟨x6_3,x7_3,x36_3,x305000_3,x305001_3,x305004_3,x305005_3,x305006_3,x306000_3,x306001_3,x306002_3,x306003_3,x306004_3,u306000,u306001,rfl,rfl,rfl,HA,HK3,HO_34,HO_306000,HO_306001,BK304,BK305,HB⟩:=hrel
       cases gk with
       | zero => exact absurd HA.out (by simp [impl_ReadProfile.l1])
       | succ k3 =>
        have H:=HA.out;clear HA;simp only [impl_ReadProfile.l1] at H
        by_cases c31 : x36_3 < (x5_6.length : Int)
        ·rw [if_pos c31] at H;have c31b0 : decide (x36_3 < (x5_6.length : Int)) = true:=decide_eq_true c31;clear c31
         by_cases c32 : 0 ≤ x36_3
         ·rw [if_pos c32] at H;have c32b0 : decide (0 ≤ x36_3) = true:=decide_eq_true c32;clear c32
          by_cases c33 : x36_3 < (x5_6.length : Int)
          ·rw [if_pos c33] at H;have c33b0 : decide (x36_3 < (x5_6.length : Int)) = true:=decide_eq_true c33;clear c33;replace H:=Option.bind_eq_some_iff.mp H;obtain ⟨⟨t319,t320,t321⟩,A340,H⟩:=H;replace H : (if t321 = true then (if 0 ≤ 3 then (if 3 ≤ ((rdOf ByteArray.empty x5_6 x36_3).size : Int) then (if ((rdOf ByteArray.empty x5_6 x36_3).extract 0 3).toList = ([108,105,109] : List UInt8) then (if 0 < (t319.length : Int) then (if 1 < (t319.length : Int) then (if 2 < (t319.length : Int) then (if x306001_3.length < 5864062014805 then (impl_ReadProfile.l0 k3 a0 (mx x6_3 t320) x306000_3 (x306001_3 ++ [(⟨rd t319 0,rd t319 1,rd t319 2⟩ : S56)]) x306002_3 x306003_3 x306004_3) else (none)) else (none)) else (none)) else (none)) else (if 3 < ((rdOf ByteArray.empty x5_6 x36_3).size : Int) then (if (bt (rdOf ByteArray.empty x5_6 x36_3) 3) = 99 then (if 0 < (t319.length : Int) then (if 1 < (t319.length : Int) then (if x306000_3.length < 8796093022208 then (impl_ReadProfile.l0 k3 a0 (mx x6_3 t320) (x306000_3 ++ [(⟨rd t319 0,rd t319 1⟩ : S49)]) x306001_3 x306002_3 x306003_3 x306004_3) else (none)) else (none)) else (none)) else (if 0 < (t319.length : Int) then (if 1 < (t319.length : Int) then (if 2 < (t319.length : Int) then (if t320 < (a0.size : Int) then (some (1,t320,([] : List (S49)),([] : List (S56)),0,0,0)) else ((impl_ProfileOk.f x306000_3 x306001_3 (rd t319 0) (rd t319 1) (rd t319 2)).bind fun t338 => (if t338 = 0 then (some (0,0,x306000_3,x306001_3,rd t319 0,rd t319 1,rd t319 2)) else (some (wrap64 (1 + t338),0,([] : List (S49)),([] : List (S56)),0,0,0))))) else (none)) else (none)) else (none))) else (none))) else (none)) else (none)) else (impl_ReadProfile.l1 k3 a0 x4_1 (mx x6_3 t320) x7_3 x5_6 (x5_6.length : Int) (wrap64 (x36_3 + 1)) x306000_3 x306001_3 x306002_3 x306003_3 x306004_3)) = some (r1,r2,r3,r4,r5,r6,r7):=H;have A34:=Am A340;clear A340
           obtain ⟨ji35,hji35⟩ : ∃ j_ : Int,(mx x6_3 t320) = j_:=⟨_,rfl⟩
           replace H : (if t321 = true then (if 0 ≤ 3 then (if 3 ≤ ((rdOf ByteArray.empty x5_6 x36_3).size : Int) then (if ((rdOf ByteArray.empty x5_6 x36_3).extract 0 3).toList = ([108,105,109] : List UInt8) then (if 0 < (t319.length : Int) then (if 1 < (t319.length : Int) then (if 2 < (t319.length : Int) then (if x306001_3.length < 5864062014805 then (impl_ReadProfile.l0 k3 a0 ji35 x306000_3 (x306001_3 ++ [(⟨rd t319 0,rd t319 1,rd t319 2⟩ : S56)]) x306002_3 x306003_3 x306004_3) else (none)) else (none)) else (none)) else (none)) else (if 3 < ((rdOf ByteArray.empty x5_6 x36_3).size : Int) then (if (bt (rdOf ByteArray.empty x5_6 x36_3) 3) = 99 then (if 0 < (t319.length : Int) then (if 1 < (t319.length : Int) then (if x306000_3.length < 8796093022208 then (impl_ReadProfile.l0 k3 a0 ji35 (x306000_3 ++ [(⟨rd t319 0,rd t319 1⟩ : S49)]) x306001_3 x306002_3 x306003_3 x306004_3) else (none)) else (none)) else (none)) else (if 0 < (t319.length : Int) then (if 1 < (t319.length : Int) then (if 2 < (t319.length : Int) then (if t320 < (a0.size : Int) then (some (1,t320,([] : List (S49)),([] : List (S56)),0,0,0)) else ((impl_ProfileOk.f x306000_3 x306001_3 (rd t319 0) (rd t319 1) (rd t319 2)).bind fun t338 => (if t338 = 0 then (some (0,0,x306000_3,x306001_3,rd t319 0,rd t319 1,rd t319 2)) else (some (wrap64 (1 + t338),0,([] : List (S49)),([] : List (S56)),0,0,0))))) else (none)) else (none)) else (none))) else (none))) else (none)) else (none)) else (impl_ReadProfile.l1 k3 a0 x4_1 ji35 x7_3 x5_6 (x5_6.length : Int) (wrap64 (x36_3 + 1)) x306000_3 x306001_3 x306002_3 x306003_3 x306004_3)) = some (r1,r2,r3,r4,r5,r6,r7):=by first|(rw [hji35] at H;exact H)|(simp only [hji35] at H ⊢;exact H)
           (try rw [hji35] at A34)
           have hji35_ : (if x6_3 < t320 then t320 else x6_3) = ji35:=hji35
           by_cases c36 : t321 = true
           ·subst c36
            rw [if_pos rfl] at H
            by_cases c37 : 0 ≤ 3
            ·rw [if_pos c37] at H;have c37b0:=eq_true c37;have c37b1 : decide (0 ≤ 3) = true:=decide_eq_true c37;clear c37
             by_cases c38 : 3 ≤ ((rdOf ByteArray.empty x5_6 x36_3).size : Int)
             ·rw [if_pos c38] at H;have c38b0:=eq_true c38;have c38b1 : decide (3 ≤ ((rdOf ByteArray.empty x5_6 x36_3).size : Int)) = true:=decide_eq_true c38;clear c38
              by_cases c39 : ((rdOf ByteArray.empty x5_6 x36_3).extract 0 3).toList = ([108,105,109] : List UInt8)
              ·rw [if_pos c39] at H;have c39b0 : (((rdOf ByteArray.empty x5_6 x36_3).extract 0 3).toList == ([108,105,109] : List UInt8)) = true:=beq_iff_eq.mpr c39;have c39b1 : (((rdOf ByteArray.empty x5_6 x36_3).extract 0 3).toList != ([108,105,109] : List UInt8)) = false:=bne_eq_false_iff_eq.mpr c39;clear c39
               by_cases c40 : 0 < (t319.length : Int)
               ·rw [if_pos c40] at H;have c40b0 : decide (0 < (t319.length : Int)) = true:=decide_eq_true c40;have c40b1 : decide (0 < t319.length) = true:=decide_eq_true (by omega);clear c40
                by_cases c41 : 1 < (t319.length : Int)
                ·rw [if_pos c41] at H;have c41b0 : decide (1 < (t319.length : Int)) = true:=decide_eq_true c41;have c41b1 : decide (1 < t319.length) = true:=decide_eq_true (by omega);clear c41
                 by_cases c42 : 2 < (t319.length : Int)
                 ·rw [if_pos c42] at H;have c42b0 : decide (2 < (t319.length : Int)) = true:=decide_eq_true c42;have c42b1 : decide (2 < t319.length) = true:=decide_eq_true (by omega);clear c42
                  by_cases c43 : x306001_3.length < 5864062014805
                  ·rw [if_pos c43] at H;have LMc43:=Am c43;clear c43
                   obtain ⟨y327,hy327⟩ : ∃ y_ : List (S56),y_ = (x306001_3 ++ [(⟨rd t319 0,rd t319 1,rd t319 2⟩ : S56)]):=⟨_,rfl⟩
                   replace H : (impl_ReadProfile.l0 k3 a0 ji35 x306000_3 y327 x306002_3 x306003_3 x306004_3) = some (r1,r2,r3,r4,r5,r6,r7):=by first|(rw [hy327];with_reducible exact H)|(have H2_:=(Option.bind_some _ _).symm.trans H;rw [hy327];with_reducible exact H2_)|(have H2_:=(Option.bind_some _ _).symm.trans H;with_reducible exact H2_)|with_reducible exact H|(rw [hy327];exact H)|exact H
                   have Ny327:=Am hy327;clear hy327;have H':=Am H;clear H;have p318 : 0 ≤ (x36_3 : Int):=of_decide_eq_true (by first|(with_reducible assumption)|assumption);have q318 : x36_3 < (x5_6.length : Int):=of_decide_eq_true (by first|(with_reducible assumption)|assumption);obtain ⟨ad318,e318,hx318_0⟩:=Kd.at_string (Kd.R_reads' HO_34.out).2.2 x36_3 p318 q318;cases e318;replace p318:=eq_true p318;replace q318:=eq_true q318
                   try go_wp2_with (first|((with_reducible refine gate_callee (f:=22) rfl ?_);refine goesL_ (some 44) rfl rfl Tryd.func22 (by kernel_rfl) rfl #[.string a0,.int .i64 x4_1,.string (rdOf ByteArray.empty x5_6 x36_3)] rfl lA ?_;(with_reducible refine (impl_match.calls k3 a0 x4_1 (rdOf ByteArray.empty x5_6 x36_3) t319 t320 true _ A34.out).mono ?_);rintro e w44 ⟨v322,rfl,ho0,hb⟩;refine ⟨_,rfl,?_⟩;have n0_:=Am (Kd.R_below (rL HO_34) hb);have n1_:=Am (Kd.R_below (rL HO_306000) hb);have n2_:=Am (Kd.R_below (rL HO_306001) hb);have n3_:=Am (Kd.R_lower ho0 (below_size (bL HB)));have n4_:=Am (blk_below (g:=gb304) (o:=.cells #[.int .i64 x305000_3,.int .i64 x305001_3,.slice none 0 0,.slice none 0 0,.int .i64 x305004_3,.int .i64 x305005_3,.int .i64 x305006_3] 32 (0,0)) (kL BK304) hb);have n5_:=Am (blk_below (g:=gb305) (o:=.cells #[u306000,u306001,.int .i64 x306002_3,.int .i64 x306003_3,.int .i64 x306004_3] 26 (0,0)) (kL BK305) hb);have n6_:=Am (below_step (bL HB) hb);clear HO_34;clear HO_306000;clear HO_306001;clear BK304;clear BK305;clear HB;have HO_34:=n0_;have HO_306000:=n1_;have HO_306001:=n2_;have HO323:=n3_;have BK304:=n4_;have BK305:=n5_;have HB:=n6_;clear n0_ n1_ n2_ n3_ n4_ n5_ n6_;(try clear hb);(try clear hb2);(try clear hk);(try clear hi);(try clear ho0)))
                   have n0_:=Am (Kd.R_drew HO_34.out);have n1_:=Am (Kd.R_drew HO_306000.out);have n2_:=Am (Kd.R_drew HO_306001.out);have n3_:=Am (Kd.R_drew HO323.out);have n4_:=Am (kD BK304.out);have n5_:=Am (kD BK305.out);have n6_:=Am (bD HB.out);clear HO_34;clear HO_306000;clear HO_306001;clear HO323;clear BK304;clear BK305;clear HB;have HO_34:=n0_;have HO_306000:=n1_;have HO_306001:=n2_;have HO323:=n3_;have BK304:=n4_;have BK305:=n5_;have HB:=n6_;clear n0_ n1_ n2_ n3_ n4_ n5_ n6_;obtain ⟨Ao46,co46,eo46⟩:=Kd.R_slice HO323.out
                   (first|subst eo46|(injection eo46 with f1_ f2_ f3_;have f4_:=f1_.symm;have f5_:=f3_.symm;clear f1_ f2_ f3_;subst f4_;subst f5_))
                   have p324 : 0 ≤ (0 : Int):=(by omega)
                   have q324 : 0 < (t319.length : Int):=of_decide_eq_true (by first|(with_reducible assumption)|assumption);obtain ⟨ad324,e324,hx324_0⟩:=Kd.at_int (Kd.R_reads' HO323.out).2.2 0 p324 q324;cases e324;have qi324 : (0 < t319.length) = True:=eq_true (by omega)
                   (try rw [show ((0 : Int)).toNat = 0 from rfl] at hx324_0)
                   (try rw [Addr.add_zero'] at hx324_0)
                   replace p324:=eq_true p324;replace q324:=eq_true q324
                   have p325 : 0 ≤ (1 : Int):=(by omega)
                   have q325 : 1 < (t319.length : Int):=of_decide_eq_true (by first|(with_reducible assumption)|assumption);obtain ⟨ad325,e325,hx325_0⟩:=Kd.at_int (Kd.R_reads' HO323.out).2.2 1 p325 q325
                   obtain rfl : ad324 = ad325:=(by injection e325)
                   (try simp only [show (1 : Int).toNat = 1 from rfl,Nat.reduceMul,Nat.reduceEqDiff,Go.Addr.add,↓reduceIte] at hx325_0)
                   have qi325 : (1 < t319.length) = True:=eq_true (by omega)
                   (try rw [show ((1 : Int)).toNat = 1 from rfl] at hx325_0)
                   replace p325:=eq_true p325;replace q325:=eq_true q325
                   have p326 : 0 ≤ (2 : Int):=(by omega)
                   have q326 : 2 < (t319.length : Int):=of_decide_eq_true (by first|(with_reducible assumption)|assumption);obtain ⟨ad326,e326,hx326_0⟩:=Kd.at_int (Kd.R_reads' HO323.out).2.2 2 p326 q326
                   obtain rfl : ad324 = ad326:=(by injection e326)
                   (try simp only [show (2 : Int).toNat = 2 from rfl,Nat.reduceMul,Nat.reduceEqDiff,Go.Addr.add,↓reduceIte] at hx326_0)
                   have qi326 : (2 < t319.length) = True:=eq_true (by omega)
                   (try rw [show ((2 : Int)).toNat = 2 from rfl] at hx326_0)
                   replace p326:=eq_true p326;replace q326:=eq_true q326;refine start_ (n:=16) (S:=fun w' => w'.cell? ⟨gb305,0,none⟩ = some (u306000)∧w'.cell? ⟨gb305,1,none⟩ = some (u306001)∧w'.cell? ⟨gb305,2,none⟩ = some (.int .i64 x306002_3)∧w'.cell? ⟨gb305,3,none⟩ = some (.int .i64 x306003_3)∧w'.cell? ⟨gb305,4,none⟩ = some (.int .i64 x306004_3)∧w'.cell? ad324 = some (.int .i64 (rd t319 0))∧w'.cell? ⟨ad324.block,ad324.off + 1,none⟩ = some (.int .i64 (rd t319 1))∧w'.cell? ⟨ad324.block,ad324.off + 2,none⟩ = some (.int .i64 (rd t319 2))) (ds:=[13,15]) #[false,false,false,false,false,false,false,false,false,false,false,false,false,false,false,false] (by kernel_rfl) rfl rfl ⟨cC_ BK305 0 rfl,cC_ BK305 1 rfl,cC_ BK305 2 rfl,cC_ BK305 3 rfl,cC_ BK305 4 rfl,hx324_0,hx325_0,hx326_0⟩ (fun hHeld => ?_);refine with_tabW impl_ReadProfile.tab29 impl_ReadProfile.bits29 (fun HT_ HW_ => ?_);generalize w44.drew = w45 at HO_34 HO_306000 HO_306001 HO323 BK304 BK305 HB hx324_0 hx325_0 hx326_0 hHeld ⊢;refine pure_ (i:=0) (N:=some 99) (v:=?_) (a':=?_) #[true,false,false,false,false,false,false,false,false,false,false,false,false,false,false,false] rfl rfl (any_of HT_.out (by kernel_rfl)) (fun _ _ _ h => h) (Or.inl ⟨by rfl,?_⟩) ?_ ?_;rotate_left
                   ·intro w'
                    go_simp
                    with_reducible rfl
                   rotate_left
                   ·simp only [Act.put,pS]
                    rfl
                   refine pure_ (i:=2) (N:=some 101) (v:=?_) (a':=?_) #[true,false,true,false,false,false,false,false,false,false,false,false,false,false,false,false] rfl rfl (any_of HT_.out (by kernel_rfl)) (fun _ _ _ h => h) (Or.inl ⟨by rfl,?_⟩) ?_ ?_;rotate_left
                   ·intro w'
                    go_simp
                    with_reducible rfl
                   rotate_left
                   ·simp only [Act.put,pS]
                    rfl
                   refine pure_ (i:=3) (N:=some 102) (v:=?_) (a':=?_) #[true,false,true,true,false,false,false,false,false,false,false,false,false,false,false,false] rfl rfl (any_of HT_.out (by kernel_rfl)) (fun _ _ _ h => h) (Or.inl ⟨by rfl,?_⟩) ?_ ?_;rotate_left
                   ·intro w'
                    go_simp
                    with_reducible rfl
                   rotate_left
                   ·simp only [Act.put,pS]
                    rfl
                   refine pure_ (i:=5) (N:=some 104) (v:=?_) (a':=?_) #[true,false,true,true,false,true,false,false,false,false,false,false,false,false,false,false] rfl rfl (any_of HT_.out (by kernel_rfl)) (fun _ _ _ h => h) (Or.inl ⟨by rfl,?_⟩) ?_ ?_;rotate_left
                   ·intro w'
                    go_simp
                    with_reducible rfl
                   rotate_left
                   ·simp only [Act.put,pS]
                    rfl
                   refine pure_ (i:=6) (N:=some 105) (v:=?_) (a':=?_) #[true,false,true,true,false,true,true,false,false,false,false,false,false,false,false,false] rfl rfl (any_of HT_.out (by kernel_rfl)) (fun _ _ _ h => h) (Or.inl ⟨by rfl,?_⟩) ?_ ?_;rotate_left
                   ·intro w'
                    go_simp
                    with_reducible rfl
                   rotate_left
                   ·simp only [Act.put,pS]
                    rfl
                   refine pure_ (i:=8) (N:=some 107) (v:=?_) (a':=?_) #[true,false,true,true,false,true,true,false,true,false,false,false,false,false,false,false] rfl rfl (any_of HT_.out (by kernel_rfl)) (fun _ _ _ h => h) (Or.inl ⟨by rfl,?_⟩) ?_ ?_;rotate_left
                   ·intro w'
                    go_simp
                    with_reducible rfl
                   rotate_left
                   ·simp only [Act.put,pS]
                    rfl
                   refine pure_ (i:=9) (N:=some 108) (v:=?_) (a':=?_) #[true,false,true,true,false,true,true,false,true,true,false,false,false,false,false,false] rfl rfl (any_of HT_.out (by kernel_rfl)) (fun _ _ _ h => h) (Or.inl ⟨by rfl,?_⟩) ?_ ?_;rotate_left
                   ·intro w'
                    go_simp
                    with_reducible rfl
                   rotate_left
                   ·simp only [Act.put,pS]
                    rfl
                   refine take_ (i:=1) (N:=some 100) (v:=?_) (a':=?_) #[true,true,true,true,false,true,true,false,true,true,false,false,false,false,false,false] rfl rfl (take_ofW HT_.out HW_.out (by kernel_rfl)) (fun _ _ _ h => h) (Or.inl ⟨by rfl,?_⟩) hHeld ?_ ?_;rotate_left
                   ·rintro w' ⟨s0,s1,s2,s3,s4,s5,s6,s7⟩
                    go_simp
                    with_reducible rfl
                   rotate_left
                   ·simp only [Act.put,pS]
                    rfl
                   refine take_ (i:=4) (N:=some 103) (v:=?_) (a':=?_) #[true,true,true,true,true,true,true,false,true,true,false,false,false,false,false,false] rfl rfl (take_ofW HT_.out HW_.out (by kernel_rfl)) (fun _ _ _ h => h) (Or.inl ⟨by rfl,?_⟩) hHeld ?_ ?_;rotate_left
                   ·rintro w' ⟨s0,s1,s2,s3,s4,s5,s6,s7⟩
                    go_simp
                    with_reducible rfl
                   rotate_left
                   ·simp only [Act.put,pS]
                    rfl
                   refine take_ (i:=7) (N:=some 106) (v:=?_) (a':=?_) #[true,true,true,true,true,true,true,true,true,true,false,false,false,false,false,false] rfl rfl (take_ofW HT_.out HW_.out (by kernel_rfl)) (fun _ _ _ h => h) (Or.inl ⟨by rfl,?_⟩) hHeld ?_ ?_;rotate_left
                   ·rintro w' ⟨s0,s1,s2,s3,s4,s5,s6,s7⟩
                    go_simp
                    with_reducible rfl
                   rotate_left
                   ·simp only [Act.put,pS]
                    rfl
                   refine take_ (i:=10) (N:=some 109) (v:=?_) (a':=?_) #[true,true,true,true,true,true,true,true,true,true,true,false,false,false,false,false] rfl rfl (take_ofW HT_.out HW_.out (by kernel_rfl)) (fun _ _ _ h => h) (Or.inl ⟨by rfl,?_⟩) hHeld ?_ ?_;rotate_left
                   ·rintro w' ⟨s0,s1,s2,s3,s4,s5,s6,s7⟩
                    go_simp
                    with_reducible rfl
                   rotate_left
                   ·simp only [Act.put,pS]
                    rfl
                   refine pure_ (i:=11) (N:=some 110) (v:=?_) (a':=?_) #[true,true,true,true,true,true,true,true,true,true,true,true,false,false,false,false] rfl rfl (any_of HT_.out (by kernel_rfl)) (fun _ _ _ h => h) (Or.inl ⟨by rfl,?_⟩) ?_ ?_;rotate_left
                   ·intro w'
                    go_simp
                    with_reducible rfl
                   rotate_left
                   ·simp only [Act.put,pS]
                    rfl
                   refine one_ (i:=12) (N:=some 111) #[true,true,true,true,true,true,true,true,true,true,true,true,true,false,false,false] rfl rfl (one_of HT_.out (by kernel_rfl)) (by decide) (fun K hK => ?_);refine value_ (w1:=?_) (v:=?_) (by rfl) rfl ?_ ?_;rotate_left 2
                   ·go_simp
                    constructor
                    ·rfl
                    ·rfl
                   refine hK.out _ _ ⟨(kC (kA BK305.out _) 0).trans rfl,(kC (kA BK305.out _) 1).trans rfl,(kC (kA BK305.out _) 2).trans rfl,(kC (kA BK305.out _) 3).trans rfl,(kC (kA BK305.out _) 4).trans rfl,(World.cell?_alloc_lt _ _ _ (World.block_lt_of_cell? _ _ (hHeld.2.2.2.2.2.1))).trans (hHeld.2.2.2.2.2.1),(World.cell?_alloc_lt _ _ _ (World.block_lt_of_cell? _ _ (hHeld.2.2.2.2.2.2.1))).trans (hHeld.2.2.2.2.2.2.1),(World.cell?_alloc_lt _ _ _ (World.block_lt_of_cell? _ _ (hHeld.2.2.2.2.2.2.2))).trans (hHeld.2.2.2.2.2.2.2)⟩ (fun hHeld => ?_);clear hK K;refine norm_ (a':=?_) ?_ ?_;rotate_left
                   ·show Act.put _ (some 111) _ = _
                    simp only [Act.put,pS]
                    rfl
                   refine last_ (i:=13) (N:=some 112) #[true,true,true,true,true,true,true,true,true,true,true,true,true,true,false,false] rfl rfl (one_of HT_.out (by kernel_rfl)) (by decide) (fun K hK => ?_);refine Kd.R_append_step k56 (w0:=w) w.heap.size (by rfl) (.tmp 100) (.tmp 111) 24 56 (.agg #[(.int .i64 0),(.int .i64 0),(.int .i64 0)]) 24 rfl Tryd.underlying24 info56 rfl (by decide) (by omega) u306001 x306001_3 (⟨rd t319 0,rd t319 1,rd t319 2⟩ : S56) [.int .i64 (rd t319 0),.int .i64 (rd t319 1),.int .i64 (rd t319 2)] (fun _ => True) (fun _ => False) rfl rfl ?aP (fun _ hk => hk.elim) ?aF ?aO ?aB ?aS ?aL ?_
                   (case aP => exact k56_mkM _ _ _ (⟨rd t319 0,rd t319 1,rd t319 2⟩ : S56))
                   (case aB => exact (bL HB))
                   (case aF => exact (fun _ _ => trivial))
                   (case aO => exact (rL HO_306001))
                   (case aS => exact (below_size (bL HB)))
                   (case aL => have:=LMc43.out;omega)
                   intro v328 w47 ho hb hg hat;rw [← Ny327.out] at ho;have n0_:=Am (Kd.R_over' (rL HO_34) (Kd.R_typed (rL HO_306001)) (by decide) hg);have n1_:=Am (Kd.R_over' (rL HO_306000) (Kd.R_typed (rL HO_306001)) (by decide) hg);have n2_:=Am (blk_grown (g:=gb304) (o:=.cells #[.int .i64 x305000_3,.int .i64 x305001_3,.slice none 0 0,.slice none 0 0,.int .i64 x305004_3,.int .i64 x305005_3,.int .i64 x305006_3] 32 (0,0)) (kL BK304) hg (Kd.R_ne HO_306001.out BK304.out (by decide)));have n3_:=Am (blk_grown (g:=gb305) (o:=.cells #[u306000,u306001,.int .i64 x306002_3,.int .i64 x306003_3,.int .i64 x306004_3] 26 (0,0)) (kL BK305) hg (Kd.R_ne HO_306001.out BK305.out (by decide)));have n4_:=Am (Kd.R_over' (rL HO323) (Kd.R_typed (rL HO_306001)) (by decide) hg);have n5_:=Am (hb);have n6_:=Am (ho);clear HO_34;clear HO_306000;clear BK304;clear BK305;clear HO323;clear HB;clear HO_306001;have HO_34:=n0_;have HO_306000:=n1_;have BK304:=n2_;have BK305:=n3_;have HO323:=n4_;have HB:=n5_;have HO329:=n6_;clear n0_ n1_ n2_ n3_ n4_ n5_ n6_;clear ho hb hg hat;obtain ⟨Ao48,co48,eo48⟩:=Kd.R_slice HO329.out
                   (first|subst eo48|(injection eo48 with f1_ f2_ f3_;have f4_:=f1_.symm;have f5_:=f3_.symm;clear f1_ f2_ f3_;subst f4_;subst f5_))
                   refine hK.out _ _ ?_;clear hK K;refine norm_ (a':=?_) ?_ ?_;rotate_left
                   ·show Act.put _ (some 112) _ = _
                    simp only [Act.put,pS]
                    rfl
                   refine pure_ (i:=14) (N:=some 113) (v:=?_) (a':=?_) #[true,true,true,true,true,true,true,true,true,true,true,true,true,true,true,false] rfl rfl (any_of HT_.out (by kernel_rfl)) (fun _ _ _ h => h) (Or.inl ⟨by rfl,?_⟩) ?_ ?_;rotate_left
                   ·intro w'
                    go_simp
                    with_reducible rfl
                   rotate_left
                   ·simp only [Act.put,pS]
                    rfl
                   refine last_ (i:=15) (N:=none) #[true,true,true,true,true,true,true,true,true,true,true,true,true,true,true,true] rfl rfl (one_of HT_.out (by kernel_rfl)) (by decide) (fun K hK => ?_);have hs49:=cC_ BK305 1 rfl;have hfs49:=kF BK305.out 1;have hns49_0:=NB304_305.out;have hms49_0:=NB305_304.out;refine skip_ (w1:=?_) (by rfl) rfl ?_ ?_;rotate_left
                   ·go_simp
                    rfl
                   refine hK.out _ _ ?_;clear hK K;refine done_ (done_of HT_.out (by kernel_rfl)) ?_
                   try go_wp2
                   go_roundg k3
                   case measure => have:=HK1.out;have:=HJ6.out;have:=HK3.out;omega
                   case rel => exact ⟨(ji35),(x305000_3),(x305001_3),(x305004_3),(x305005_3),(x305006_3),(x306000_3),(y327),(x306002_3),(x306003_3),(x306004_3),(u306000),(.slice Ao48 y327.length co48),(by first|rfl|(simp;done)|(simp only [← hji35] <;> (first|rfl|simp))|(simp [*];done)),H',⟨by have:=HK1.out;have:=HJ6.out;have:=HK3.out;omega⟩,⟨by (with_reducible repeat (first|apply Kd.R_alloc|apply Kd.R_drewN|apply Kd.R_drew));exact Kd.R_mono (Kd.R_far (p:=⟨gb305,1,none⟩) (Kd.R_types HO_306000.out BK305.out (by decide)) (fun _ hk => hk.2) (.slice Ao48 y327.length co48)) (fun _ hk => trivial)⟩,⟨by (with_reducible repeat (first|apply Kd.R_alloc|apply Kd.R_drewN|apply Kd.R_drew));exact Kd.R_mono (Kd.R_far (p:=⟨gb305,1,none⟩) (Kd.R_types HO329.out BK305.out (by decide)) (fun _ hk => hk.2) (.slice Ao48 y327.length co48)) (fun _ hk => trivial)⟩,⟨by (with_reducible repeat (first|refine kN ?_ _|refine kD ?_|refine kA ?_ _));refine blk_far ?_ NB304_305.out _;(with_reducible repeat (first|refine kN ?_ _|refine kD ?_|refine kA ?_ _));exact BK304.out⟩,⟨by (with_reducible repeat (first|refine kN ?_ _|refine kD ?_|refine kA ?_ _));refine blk_put (cs:=#[u306000,u306001,.int .i64 x306002_3,.int .i64 x306003_3,.int .i64 x306004_3]) ?_ 1 _ rfl;(with_reducible repeat (first|refine kN ?_ _|refine kD ?_|refine kA ?_ _));exact BK305.out⟩,⟨bL HB⟩⟩
                  ·rw [if_neg c43] at H;exact absurd H (by simp)
                 ·rw [if_neg c42] at H;exact absurd H (by simp)
                ·rw [if_neg c41] at H;exact absurd H (by simp)
               ·rw [if_neg c40] at H;exact absurd H (by simp)
              ·rw [if_neg c39] at H;have c39b0 : (((rdOf ByteArray.empty x5_6 x36_3).extract 0 3).toList == ([108,105,109] : List UInt8)) = false:=beq_eq_false_iff_ne.mpr c39;have c39b1 : (((rdOf ByteArray.empty x5_6 x36_3).extract 0 3).toList != ([108,105,109] : List UInt8)) = true:=bne_iff_ne.mpr c39
               by_cases c50 : 3 < ((rdOf ByteArray.empty x5_6 x36_3).size : Int)
               ·rw [if_pos c50] at H;have c50b0 : decide (3 < ((rdOf ByteArray.empty x5_6 x36_3).size : Int)) = true:=decide_eq_true c50;have c50b1 : decide (3 < (rdOf ByteArray.empty x5_6 x36_3).size) = true:=decide_eq_true (by omega);clear c50
                by_cases c52 : (bt (rdOf ByteArray.empty x5_6 x36_3) 3) = 99
                ·rw [if_pos c52] at H;have c52b0 : ((bt (rdOf ByteArray.empty x5_6 x36_3) 3) == 99) = true:=beq_iff_eq.mpr c52;have c52b1 : ((bt (rdOf ByteArray.empty x5_6 x36_3) 3) != 99) = false:=bne_eq_false_iff_eq.mpr c52;clear c52
                 by_cases c53 : 0 < (t319.length : Int)
                 ·rw [if_pos c53] at H;have c53b0 : decide (0 < (t319.length : Int)) = true:=decide_eq_true c53;have c53b1 : decide (0 < t319.length) = true:=decide_eq_true (by omega);clear c53
                  by_cases c54 : 1 < (t319.length : Int)
                  ·rw [if_pos c54] at H;have c54b0 : decide (1 < (t319.length : Int)) = true:=decide_eq_true c54;have c54b1 : decide (1 < t319.length) = true:=decide_eq_true (by omega);clear c54
                   by_cases c55 : x306000_3.length < 8796093022208
                   ·rw [if_pos c55] at H;have LMc55:=Am c55;clear c55
                    obtain ⟨y332,hy332⟩ : ∃ y_ : List (S49),y_ = (x306000_3 ++ [(⟨rd t319 0,rd t319 1⟩ : S49)]):=⟨_,rfl⟩
                    replace H : (impl_ReadProfile.l0 k3 a0 ji35 y332 x306001_3 x306002_3 x306003_3 x306004_3) = some (r1,r2,r3,r4,r5,r6,r7):=by first|(rw [hy332];with_reducible exact H)|(have H2_:=(Option.bind_some _ _).symm.trans H;rw [hy332];with_reducible exact H2_)|(have H2_:=(Option.bind_some _ _).symm.trans H;with_reducible exact H2_)|with_reducible exact H|(rw [hy332];exact H)|exact H
                    have Ny332:=Am hy332;clear hy332;have H':=Am H;clear H;have p318 : 0 ≤ (x36_3 : Int):=of_decide_eq_true (by first|(with_reducible assumption)|assumption);have q318 : x36_3 < (x5_6.length : Int):=of_decide_eq_true (by first|(with_reducible assumption)|assumption);obtain ⟨ad318,e318,hx318_0⟩:=Kd.at_string (Kd.R_reads' HO_34.out).2.2 x36_3 p318 q318;cases e318;replace p318:=eq_true p318;replace q318:=eq_true q318
                    try go_wp2_with (first|((with_reducible refine gate_callee (f:=22) rfl ?_);refine goesL_ (some 44) rfl rfl Tryd.func22 (by kernel_rfl) rfl #[.string a0,.int .i64 x4_1,.string (rdOf ByteArray.empty x5_6 x36_3)] rfl lA ?_;(with_reducible refine (impl_match.calls k3 a0 x4_1 (rdOf ByteArray.empty x5_6 x36_3) t319 t320 true _ A34.out).mono ?_);rintro e w56 ⟨v322,rfl,ho0,hb⟩;refine ⟨_,rfl,?_⟩;have n0_:=Am (Kd.R_below (rL HO_34) hb);have n1_:=Am (Kd.R_below (rL HO_306000) hb);have n2_:=Am (Kd.R_below (rL HO_306001) hb);have n3_:=Am (Kd.R_lower ho0 (below_size (bL HB)));have n4_:=Am (blk_below (g:=gb304) (o:=.cells #[.int .i64 x305000_3,.int .i64 x305001_3,.slice none 0 0,.slice none 0 0,.int .i64 x305004_3,.int .i64 x305005_3,.int .i64 x305006_3] 32 (0,0)) (kL BK304) hb);have n5_:=Am (blk_below (g:=gb305) (o:=.cells #[u306000,u306001,.int .i64 x306002_3,.int .i64 x306003_3,.int .i64 x306004_3] 26 (0,0)) (kL BK305) hb);have n6_:=Am (below_step (bL HB) hb);clear HO_34;clear HO_306000;clear HO_306001;clear BK304;clear BK305;clear HB;have HO_34:=n0_;have HO_306000:=n1_;have HO_306001:=n2_;have HO323:=n3_;have BK304:=n4_;have BK305:=n5_;have HB:=n6_;clear n0_ n1_ n2_ n3_ n4_ n5_ n6_;(try clear hb);(try clear hb2);(try clear hk);(try clear hi);(try clear ho0);have p51 : 0 ≤ (3 : Int):=(by omega);have q51 : 3 < (rdOf ByteArray.empty x5_6 x36_3).size:=(by have : (3 : Int) < ((rdOf ByteArray.empty x5_6 x36_3).size : Int):=of_decide_eq_true (by first|(with_reducible assumption)|assumption);omega);have hx51 : ∀ h : 3 < (rdOf ByteArray.empty x5_6 x36_3).size,(((rdOf ByteArray.empty x5_6 x36_3)[3]'h).toNat : Int) = bt (rdOf ByteArray.empty x5_6 x36_3) 3:=bt_at (rdOf ByteArray.empty x5_6 x36_3) 3;clear p51;have qi51 : (3 < ((rdOf ByteArray.empty x5_6 x36_3).size : Int)) = True:=eq_true (of_decide_eq_true (by first|(with_reducible assumption)|assumption));replace q51:=eq_true q51))
                    have n0_:=Am (Kd.R_drew HO_34.out);have n1_:=Am (Kd.R_drew HO_306000.out);have n2_:=Am (Kd.R_drew HO_306001.out);have n3_:=Am (Kd.R_drew HO323.out);have n4_:=Am (kD BK304.out);have n5_:=Am (kD BK305.out);have n6_:=Am (bD HB.out);clear HO_34;clear HO_306000;clear HO_306001;clear HO323;clear BK304;clear BK305;clear HB;have HO_34:=n0_;have HO_306000:=n1_;have HO_306001:=n2_;have HO323:=n3_;have BK304:=n4_;have BK305:=n5_;have HB:=n6_;clear n0_ n1_ n2_ n3_ n4_ n5_ n6_;obtain ⟨Ao58,co58,eo58⟩:=Kd.R_slice HO323.out
                    (first|subst eo58|(injection eo58 with f1_ f2_ f3_;have f4_:=f1_.symm;have f5_:=f3_.symm;clear f1_ f2_ f3_;subst f4_;subst f5_))
                    have p330 : 0 ≤ (0 : Int):=(by omega)
                    have q330 : 0 < (t319.length : Int):=of_decide_eq_true (by first|(with_reducible assumption)|assumption);obtain ⟨ad330,e330,hx330_0⟩:=Kd.at_int (Kd.R_reads' HO323.out).2.2 0 p330 q330;cases e330;have qi330 : (0 < t319.length) = True:=eq_true (by omega)
                    (try rw [show ((0 : Int)).toNat = 0 from rfl] at hx330_0)
                    (try rw [Addr.add_zero'] at hx330_0)
                    replace p330:=eq_true p330;replace q330:=eq_true q330
                    have p331 : 0 ≤ (1 : Int):=(by omega)
                    have q331 : 1 < (t319.length : Int):=of_decide_eq_true (by first|(with_reducible assumption)|assumption);obtain ⟨ad331,e331,hx331_0⟩:=Kd.at_int (Kd.R_reads' HO323.out).2.2 1 p331 q331
                    obtain rfl : ad330 = ad331:=(by injection e331)
                    (try simp only [show (1 : Int).toNat = 1 from rfl,Nat.reduceMul,Nat.reduceEqDiff,Go.Addr.add,↓reduceIte] at hx331_0)
                    have qi331 : (1 < t319.length) = True:=eq_true (by omega)
                    (try rw [show ((1 : Int)).toNat = 1 from rfl] at hx331_0)
                    replace p331:=eq_true p331;replace q331:=eq_true q331;refine start_ (n:=13) (S:=fun w' => w'.cell? ⟨gb305,0,none⟩ = some (u306000)∧w'.cell? ⟨gb305,1,none⟩ = some (u306001)∧w'.cell? ⟨gb305,2,none⟩ = some (.int .i64 x306002_3)∧w'.cell? ⟨gb305,3,none⟩ = some (.int .i64 x306003_3)∧w'.cell? ⟨gb305,4,none⟩ = some (.int .i64 x306004_3)∧w'.cell? ad330 = some (.int .i64 (rd t319 0))∧w'.cell? ⟨ad330.block,ad330.off + 1,none⟩ = some (.int .i64 (rd t319 1))) (ds:=[10,12]) #[false,false,false,false,false,false,false,false,false,false,false,false,false] (by kernel_rfl) rfl rfl ⟨cC_ BK305 0 rfl,cC_ BK305 1 rfl,cC_ BK305 2 rfl,cC_ BK305 3 rfl,cC_ BK305 4 rfl,hx330_0,hx331_0⟩ (fun hHeld => ?_);refine with_tabW impl_ReadProfile.tab20 impl_ReadProfile.bits20 (fun HT_ HW_ => ?_);generalize w56.drew = w57 at HO_34 HO_306000 HO_306001 HO323 BK304 BK305 HB hx330_0 hx331_0 hHeld ⊢;refine pure_ (i:=0) (N:=some 58) (v:=?_) (a':=?_) #[true,false,false,false,false,false,false,false,false,false,false,false,false] rfl rfl (any_of HT_.out (by kernel_rfl)) (fun _ _ _ h => h) (Or.inl ⟨by rfl,?_⟩) ?_ ?_;rotate_left
                    ·intro w'
                     go_simp
                     with_reducible rfl
                    rotate_left
                    ·simp only [Act.put,pS]
                     rfl
                    refine pure_ (i:=2) (N:=some 60) (v:=?_) (a':=?_) #[true,false,true,false,false,false,false,false,false,false,false,false,false] rfl rfl (any_of HT_.out (by kernel_rfl)) (fun _ _ _ h => h) (Or.inl ⟨by rfl,?_⟩) ?_ ?_;rotate_left
                    ·intro w'
                     go_simp
                     with_reducible rfl
                    rotate_left
                    ·simp only [Act.put,pS]
                     rfl
                    refine pure_ (i:=3) (N:=some 61) (v:=?_) (a':=?_) #[true,false,true,true,false,false,false,false,false,false,false,false,false] rfl rfl (any_of HT_.out (by kernel_rfl)) (fun _ _ _ h => h) (Or.inl ⟨by rfl,?_⟩) ?_ ?_;rotate_left
                    ·intro w'
                     go_simp
                     with_reducible rfl
                    rotate_left
                    ·simp only [Act.put,pS]
                     rfl
                    refine pure_ (i:=5) (N:=some 63) (v:=?_) (a':=?_) #[true,false,true,true,false,true,false,false,false,false,false,false,false] rfl rfl (any_of HT_.out (by kernel_rfl)) (fun _ _ _ h => h) (Or.inl ⟨by rfl,?_⟩) ?_ ?_;rotate_left
                    ·intro w'
                     go_simp
                     with_reducible rfl
                    rotate_left
                    ·simp only [Act.put,pS]
                     rfl
                    refine pure_ (i:=6) (N:=some 64) (v:=?_) (a':=?_) #[true,false,true,true,false,true,true,false,false,false,false,false,false] rfl rfl (any_of HT_.out (by kernel_rfl)) (fun _ _ _ h => h) (Or.inl ⟨by rfl,?_⟩) ?_ ?_;rotate_left
                    ·intro w'
                     go_simp
                     with_reducible rfl
                    rotate_left
                    ·simp only [Act.put,pS]
                     rfl
                    refine take_ (i:=1) (N:=some 59) (v:=?_) (a':=?_) #[true,true,true,true,false,true,true,false,false,false,false,false,false] rfl rfl (take_ofW HT_.out HW_.out (by kernel_rfl)) (fun _ _ _ h => h) (Or.inl ⟨by rfl,?_⟩) hHeld ?_ ?_;rotate_left
                    ·rintro w' ⟨s0,s1,s2,s3,s4,s5,s6⟩
                     go_simp
                     with_reducible rfl
                    rotate_left
                    ·simp only [Act.put,pS]
                     rfl
                    refine take_ (i:=4) (N:=some 62) (v:=?_) (a':=?_) #[true,true,true,true,true,true,true,false,false,false,false,false,false] rfl rfl (take_ofW HT_.out HW_.out (by kernel_rfl)) (fun _ _ _ h => h) (Or.inl ⟨by rfl,?_⟩) hHeld ?_ ?_;rotate_left
                    ·rintro w' ⟨s0,s1,s2,s3,s4,s5,s6⟩
                     go_simp
                     with_reducible rfl
                    rotate_left
                    ·simp only [Act.put,pS]
                     rfl
                    refine take_ (i:=7) (N:=some 65) (v:=?_) (a':=?_) #[true,true,true,true,true,true,true,true,false,false,false,false,false] rfl rfl (take_ofW HT_.out HW_.out (by kernel_rfl)) (fun _ _ _ h => h) (Or.inl ⟨by rfl,?_⟩) hHeld ?_ ?_;rotate_left
                    ·rintro w' ⟨s0,s1,s2,s3,s4,s5,s6⟩
                     go_simp
                     with_reducible rfl
                    rotate_left
                    ·simp only [Act.put,pS]
                     rfl
                    refine pure_ (i:=8) (N:=some 66) (v:=?_) (a':=?_) #[true,true,true,true,true,true,true,true,true,false,false,false,false] rfl rfl (any_of HT_.out (by kernel_rfl)) (fun _ _ _ h => h) (Or.inl ⟨by rfl,?_⟩) ?_ ?_;rotate_left
                    ·intro w'
                     go_simp
                     with_reducible rfl
                    rotate_left
                    ·simp only [Act.put,pS]
                     rfl
                    refine one_ (i:=9) (N:=some 67) #[true,true,true,true,true,true,true,true,true,true,false,false,false] rfl rfl (one_of HT_.out (by kernel_rfl)) (by decide) (fun K hK => ?_);refine value_ (w1:=?_) (v:=?_) (by rfl) rfl ?_ ?_;rotate_left 2
                    ·go_simp
                     constructor
                     ·rfl
                     ·rfl
                    refine hK.out _ _ ⟨(kC (kA BK305.out _) 0).trans rfl,(kC (kA BK305.out _) 1).trans rfl,(kC (kA BK305.out _) 2).trans rfl,(kC (kA BK305.out _) 3).trans rfl,(kC (kA BK305.out _) 4).trans rfl,(World.cell?_alloc_lt _ _ _ (World.block_lt_of_cell? _ _ (hHeld.2.2.2.2.2.1))).trans (hHeld.2.2.2.2.2.1),(World.cell?_alloc_lt _ _ _ (World.block_lt_of_cell? _ _ (hHeld.2.2.2.2.2.2))).trans (hHeld.2.2.2.2.2.2)⟩ (fun hHeld => ?_);clear hK K;refine norm_ (a':=?_) ?_ ?_;rotate_left
                    ·show Act.put _ (some 67) _ = _
                     simp only [Act.put,pS]
                     rfl
                    refine last_ (i:=10) (N:=some 68) #[true,true,true,true,true,true,true,true,true,true,true,false,false] rfl rfl (one_of HT_.out (by kernel_rfl)) (by decide) (fun K hK => ?_);refine Kd.R_append_step k49 (w0:=w) w.heap.size (by rfl) (.tmp 59) (.tmp 67) 23 49 (.agg #[(.int .i64 0),(.int .i64 0)]) 16 rfl Tryd.underlying23 info49 rfl (by decide) (by omega) u306000 x306000_3 (⟨rd t319 0,rd t319 1⟩ : S49) [.int .i64 (rd t319 0),.int .i64 (rd t319 1)] (fun _ => True) (fun _ => False) rfl rfl ?aP (fun _ hk => hk.elim) ?aF ?aO ?aB ?aS ?aL ?_
                    (case aP => exact k49_mkM _ _ _ (⟨rd t319 0,rd t319 1⟩ : S49))
                    (case aB => exact (bL HB))
                    (case aF => exact (fun _ _ => trivial))
                    (case aO => exact (rL HO_306000))
                    (case aS => exact (below_size (bL HB)))
                    (case aL => have:=LMc55.out;omega)
                    intro v333 w59 ho hb hg hat;rw [← Ny332.out] at ho;have n0_:=Am (Kd.R_over' (rL HO_34) (Kd.R_typed (rL HO_306000)) (by decide) hg);have n1_:=Am (Kd.R_over' (rL HO_306001) (Kd.R_typed (rL HO_306000)) (by decide) hg);have n2_:=Am (blk_grown (g:=gb304) (o:=.cells #[.int .i64 x305000_3,.int .i64 x305001_3,.slice none 0 0,.slice none 0 0,.int .i64 x305004_3,.int .i64 x305005_3,.int .i64 x305006_3] 32 (0,0)) (kL BK304) hg (Kd.R_ne HO_306000.out BK304.out (by decide)));have n3_:=Am (blk_grown (g:=gb305) (o:=.cells #[u306000,u306001,.int .i64 x306002_3,.int .i64 x306003_3,.int .i64 x306004_3] 26 (0,0)) (kL BK305) hg (Kd.R_ne HO_306000.out BK305.out (by decide)));have n4_:=Am (Kd.R_over' (rL HO323) (Kd.R_typed (rL HO_306000)) (by decide) hg);have n5_:=Am (hb);have n6_:=Am (ho);clear HO_34;clear HO_306001;clear BK304;clear BK305;clear HO323;clear HB;clear HO_306000;have HO_34:=n0_;have HO_306001:=n1_;have BK304:=n2_;have BK305:=n3_;have HO323:=n4_;have HB:=n5_;have HO334:=n6_;clear n0_ n1_ n2_ n3_ n4_ n5_ n6_;clear ho hb hg hat;obtain ⟨Ao60,co60,eo60⟩:=Kd.R_slice HO334.out
                    (first|subst eo60|(injection eo60 with f1_ f2_ f3_;have f4_:=f1_.symm;have f5_:=f3_.symm;clear f1_ f2_ f3_;subst f4_;subst f5_))
                    refine hK.out _ _ ?_;clear hK K;refine norm_ (a':=?_) ?_ ?_;rotate_left
                    ·show Act.put _ (some 68) _ = _
                     simp only [Act.put,pS]
                     rfl
                    refine pure_ (i:=11) (N:=some 69) (v:=?_) (a':=?_) #[true,true,true,true,true,true,true,true,true,true,true,true,false] rfl rfl (any_of HT_.out (by kernel_rfl)) (fun _ _ _ h => h) (Or.inl ⟨by rfl,?_⟩) ?_ ?_;rotate_left
                    ·intro w'
                     go_simp
                     with_reducible rfl
                    rotate_left
                    ·simp only [Act.put,pS]
                     rfl
                    refine last_ (i:=12) (N:=none) #[true,true,true,true,true,true,true,true,true,true,true,true,true] rfl rfl (one_of HT_.out (by kernel_rfl)) (by decide) (fun K hK => ?_);have hs61:=cC_ BK305 0 rfl;have hfs61:=kF BK305.out 0;have hns61_0:=NB304_305.out;have hms61_0:=NB305_304.out;refine skip_ (w1:=?_) (by rfl) rfl ?_ ?_;rotate_left
                    ·go_simp
                     rfl
                    refine hK.out _ _ ?_;clear hK K;refine done_ (done_of HT_.out (by kernel_rfl)) ?_
                    try go_wp2
                    go_roundg k3
                    case measure => have:=HK1.out;have:=HJ6.out;have:=HK3.out;omega
                    case rel => exact ⟨(ji35),(x305000_3),(x305001_3),(x305004_3),(x305005_3),(x305006_3),(y332),(x306001_3),(x306002_3),(x306003_3),(x306004_3),(.slice Ao60 y332.length co60),(u306001),(by first|rfl|(simp;done)|(simp only [← hji35] <;> (first|rfl|simp))|(simp [*];done)),H',⟨by have:=HK1.out;have:=HJ6.out;have:=HK3.out;omega⟩,⟨by (with_reducible repeat (first|apply Kd.R_alloc|apply Kd.R_drewN|apply Kd.R_drew));exact Kd.R_mono (Kd.R_far (p:=⟨gb305,0,none⟩) (Kd.R_types HO334.out BK305.out (by decide)) (fun _ hk => hk.2) (.slice Ao60 y332.length co60)) (fun _ hk => trivial)⟩,⟨by (with_reducible repeat (first|apply Kd.R_alloc|apply Kd.R_drewN|apply Kd.R_drew));exact Kd.R_mono (Kd.R_far (p:=⟨gb305,0,none⟩) (Kd.R_types HO_306001.out BK305.out (by decide)) (fun _ hk => hk.2) (.slice Ao60 y332.length co60)) (fun _ hk => trivial)⟩,⟨by (with_reducible repeat (first|refine kN ?_ _|refine kD ?_|refine kA ?_ _));refine blk_far ?_ NB304_305.out _;(with_reducible repeat (first|refine kN ?_ _|refine kD ?_|refine kA ?_ _));exact BK304.out⟩,⟨by (with_reducible repeat (first|refine kN ?_ _|refine kD ?_|refine kA ?_ _));refine blk_put (cs:=#[u306000,u306001,.int .i64 x306002_3,.int .i64 x306003_3,.int .i64 x306004_3]) ?_ 0 _ rfl;(with_reducible repeat (first|refine kN ?_ _|refine kD ?_|refine kA ?_ _));exact BK305.out⟩,⟨bL HB⟩⟩
                   ·rw [if_neg c55] at H;exact absurd H (by simp)
                  ·rw [if_neg c54] at H;exact absurd H (by simp)
                 ·rw [if_neg c53] at H;exact absurd H (by simp)
                ·rw [if_neg c52] at H;have c52b0 : ((bt (rdOf ByteArray.empty x5_6 x36_3) 3) == 99) = false:=beq_eq_false_iff_ne.mpr c52;have c52b1 : ((bt (rdOf ByteArray.empty x5_6 x36_3) 3) != 99) = true:=bne_iff_ne.mpr c52
                 by_cases c62 : 0 < (t319.length : Int)
                 ·rw [if_pos c62] at H;have c62b0 : decide (0 < (t319.length : Int)) = true:=decide_eq_true c62;have c62b1 : decide (0 < t319.length) = true:=decide_eq_true (by omega);clear c62
                  by_cases c63 : 1 < (t319.length : Int)
                  ·rw [if_pos c63] at H;have c63b0 : decide (1 < (t319.length : Int)) = true:=decide_eq_true c63;have c63b1 : decide (1 < t319.length) = true:=decide_eq_true (by omega);clear c63
                   by_cases c64 : 2 < (t319.length : Int)
                   ·rw [if_pos c64] at H;have c64b0 : decide (2 < (t319.length : Int)) = true:=decide_eq_true c64;have c64b1 : decide (2 < t319.length) = true:=decide_eq_true (by omega);clear c64
                    by_cases c65 : t320 < (a0.size : Int)
                    ·rw [if_pos c65] at H;have c65b0 : decide (t320 < (a0.size : Int)) = true:=decide_eq_true c65;clear c65;simp only [Option.some.injEq,Prod.mk.injEq] at H;obtain ⟨rfl,rfl,rfl,rfl,rfl,rfl,rfl⟩:=H;have p318 : 0 ≤ (x36_3 : Int):=of_decide_eq_true (by first|(with_reducible assumption)|assumption);have q318 : x36_3 < (x5_6.length : Int):=of_decide_eq_true (by first|(with_reducible assumption)|assumption);obtain ⟨ad318,e318,hx318_0⟩:=Kd.at_string (Kd.R_reads' HO_34.out).2.2 x36_3 p318 q318;cases e318;replace p318:=eq_true p318;replace q318:=eq_true q318
                     try go_wp2_with (first|((with_reducible refine gate_callee (f:=22) rfl ?_);refine goesL_ (some 44) rfl rfl Tryd.func22 (by kernel_rfl) rfl #[.string a0,.int .i64 x4_1,.string (rdOf ByteArray.empty x5_6 x36_3)] rfl lA ?_;(with_reducible refine (impl_match.calls k3 a0 x4_1 (rdOf ByteArray.empty x5_6 x36_3) t319 t320 true _ A34.out).mono ?_);rintro e w66 ⟨v322,rfl,ho0,hb⟩;refine ⟨_,rfl,?_⟩;have n0_:=Am (Kd.R_below (rL HO_34) hb);have n1_:=Am (Kd.R_below (rL HO_306000) hb);have n2_:=Am (Kd.R_below (rL HO_306001) hb);have n3_:=Am (Kd.R_lower ho0 (below_size (bL HB)));have n4_:=Am (blk_below (g:=gb304) (o:=.cells #[.int .i64 x305000_3,.int .i64 x305001_3,.slice none 0 0,.slice none 0 0,.int .i64 x305004_3,.int .i64 x305005_3,.int .i64 x305006_3] 32 (0,0)) (kL BK304) hb);have n5_:=Am (blk_below (g:=gb305) (o:=.cells #[u306000,u306001,.int .i64 x306002_3,.int .i64 x306003_3,.int .i64 x306004_3] 26 (0,0)) (kL BK305) hb);have n6_:=Am (below_step (bL HB) hb);clear HO_34;clear HO_306000;clear HO_306001;clear BK304;clear BK305;clear HB;have HO_34:=n0_;have HO_306000:=n1_;have HO_306001:=n2_;have HO323:=n3_;have BK304:=n4_;have BK305:=n5_;have HB:=n6_;clear n0_ n1_ n2_ n3_ n4_ n5_ n6_;(try clear hb);(try clear hb2);(try clear hk);(try clear hi);(try clear ho0);have p51 : 0 ≤ (3 : Int):=(by omega);have q51 : 3 < (rdOf ByteArray.empty x5_6 x36_3).size:=(by have : (3 : Int) < ((rdOf ByteArray.empty x5_6 x36_3).size : Int):=of_decide_eq_true (by first|(with_reducible assumption)|assumption);omega);have hx51 : ∀ h : 3 < (rdOf ByteArray.empty x5_6 x36_3).size,(((rdOf ByteArray.empty x5_6 x36_3)[3]'h).toNat : Int) = bt (rdOf ByteArray.empty x5_6 x36_3) 3:=bt_at (rdOf ByteArray.empty x5_6 x36_3) 3;clear p51;have qi51 : (3 < ((rdOf ByteArray.empty x5_6 x36_3).size : Int)) = True:=eq_true (of_decide_eq_true (by first|(with_reducible assumption)|assumption));replace q51:=eq_true q51))
                     have n0_:=Am (Kd.R_drew HO_34.out);have n1_:=Am (Kd.R_drew HO_306000.out);have n2_:=Am (Kd.R_drew HO_306001.out);have n3_:=Am (Kd.R_drew HO323.out);have n4_:=Am (kD BK304.out);have n5_:=Am (kD BK305.out);have n6_:=Am (bD HB.out);clear HO_34;clear HO_306000;clear HO_306001;clear HO323;clear BK304;clear BK305;clear HB;have HO_34:=n0_;have HO_306000:=n1_;have HO_306001:=n2_;have HO323:=n3_;have BK304:=n4_;have BK305:=n5_;have HB:=n6_;clear n0_ n1_ n2_ n3_ n4_ n5_ n6_;obtain ⟨Ao68,co68,eo68⟩:=Kd.R_slice HO323.out
                     (first|subst eo68|(injection eo68 with f1_ f2_ f3_;have f4_:=f1_.symm;have f5_:=f3_.symm;clear f1_ f2_ f3_;subst f4_;subst f5_))
                     have p335 : 0 ≤ (0 : Int):=(by omega)
                     have q335 : 0 < (t319.length : Int):=of_decide_eq_true (by first|(with_reducible assumption)|assumption);obtain ⟨ad335,e335,hx335_0⟩:=Kd.at_int (Kd.R_reads' HO323.out).2.2 0 p335 q335;cases e335;have qi335 : (0 < t319.length) = True:=eq_true (by omega)
                     (try rw [show ((0 : Int)).toNat = 0 from rfl] at hx335_0)
                     (try rw [Addr.add_zero'] at hx335_0)
                     replace p335:=eq_true p335;replace q335:=eq_true q335
                     have p336 : 0 ≤ (1 : Int):=(by omega)
                     have q336 : 1 < (t319.length : Int):=of_decide_eq_true (by first|(with_reducible assumption)|assumption);obtain ⟨ad336,e336,hx336_0⟩:=Kd.at_int (Kd.R_reads' HO323.out).2.2 1 p336 q336
                     obtain rfl : ad335 = ad336:=(by injection e336)
                     (try simp only [show (1 : Int).toNat = 1 from rfl,Nat.reduceMul,Nat.reduceEqDiff,Go.Addr.add,↓reduceIte] at hx336_0)
                     have qi336 : (1 < t319.length) = True:=eq_true (by omega)
                     (try rw [show ((1 : Int)).toNat = 1 from rfl] at hx336_0)
                     replace p336:=eq_true p336;replace q336:=eq_true q336
                     have p337 : 0 ≤ (2 : Int):=(by omega)
                     have q337 : 2 < (t319.length : Int):=of_decide_eq_true (by first|(with_reducible assumption)|assumption);obtain ⟨ad337,e337,hx337_0⟩:=Kd.at_int (Kd.R_reads' HO323.out).2.2 2 p337 q337
                     obtain rfl : ad335 = ad337:=(by injection e337)
                     (try simp only [show (2 : Int).toNat = 2 from rfl,Nat.reduceMul,Nat.reduceEqDiff,Go.Addr.add,↓reduceIte] at hx337_0)
                     have qi337 : (2 < t319.length) = True:=eq_true (by omega)
                     (try rw [show ((2 : Int)).toNat = 2 from rfl] at hx337_0)
                     replace p337:=eq_true p337;replace q337:=eq_true q337;refine start_ (n:=15) (S:=fun w' => w'.cell? ad335 = some (.int .i64 (rd t319 0))∧w'.cell? ⟨ad335.block,ad335.off + 1,none⟩ = some (.int .i64 (rd t319 1))∧w'.cell? ⟨ad335.block,ad335.off + 2,none⟩ = some (.int .i64 (rd t319 2))) (ds:=[]) #[false,false,false,false,false,false,false,false,false,false,false,false,false,false,false] (by kernel_rfl) rfl rfl ⟨hx335_0,hx336_0,hx337_0⟩ (fun hHeld => ?_);refine with_tabW impl_ReadProfile.tab21 impl_ReadProfile.bits21 (fun HT_ HW_ => ?_);generalize w66.drew = w67 at HO_34 HO_306000 HO_306001 HO323 BK304 BK305 HB hx335_0 hx336_0 hx337_0 hHeld ⊢;refine pure_ (i:=0) (N:=some 70) (v:=?_) (a':=?_) #[true,false,false,false,false,false,false,false,false,false,false,false,false,false,false] rfl rfl (any_of HT_.out (by kernel_rfl)) (fun _ _ _ h => h) (Or.inl ⟨by rfl,?_⟩) ?_ ?_;rotate_left
                     ·intro w'
                      go_simp
                      with_reducible rfl
                     rotate_left
                     ·simp only [Act.put,pS]
                      rfl
                     refine pure_ (i:=1) (N:=some 71) (v:=?_) (a':=?_) #[true,true,false,false,false,false,false,false,false,false,false,false,false,false,false] rfl rfl (any_of HT_.out (by kernel_rfl)) (fun _ _ _ h => h) (Or.inl ⟨by rfl,?_⟩) ?_ ?_;rotate_left
                     ·intro w'
                      go_simp
                      with_reducible rfl
                     rotate_left
                     ·simp only [Act.put,pS]
                      rfl
                     refine pure_ (i:=3) (N:=some 73) (v:=?_) (a':=?_) #[true,true,false,true,false,false,false,false,false,false,false,false,false,false,false] rfl rfl (any_of HT_.out (by kernel_rfl)) (fun _ _ _ h => h) (Or.inl ⟨by rfl,?_⟩) ?_ ?_;rotate_left
                     ·intro w'
                      go_simp
                      with_reducible rfl
                     rotate_left
                     ·simp only [Act.put,pS]
                      rfl
                     refine pure_ (i:=4) (N:=some 74) (v:=?_) (a':=?_) #[true,true,false,true,true,false,false,false,false,false,false,false,false,false,false] rfl rfl (any_of HT_.out (by kernel_rfl)) (fun _ _ _ h => h) (Or.inl ⟨by rfl,?_⟩) ?_ ?_;rotate_left
                     ·intro w'
                      go_simp
                      with_reducible rfl
                     rotate_left
                     ·simp only [Act.put,pS]
                      rfl
                     refine pure_ (i:=6) (N:=some 76) (v:=?_) (a':=?_) #[true,true,false,true,true,false,true,false,false,false,false,false,false,false,false] rfl rfl (any_of HT_.out (by kernel_rfl)) (fun _ _ _ h => h) (Or.inl ⟨by rfl,?_⟩) ?_ ?_;rotate_left
                     ·intro w'
                      go_simp
                      with_reducible rfl
                     rotate_left
                     ·simp only [Act.put,pS]
                      rfl
                     refine pure_ (i:=7) (N:=some 77) (v:=?_) (a':=?_) #[true,true,false,true,true,false,true,true,false,false,false,false,false,false,false] rfl rfl (any_of HT_.out (by kernel_rfl)) (fun _ _ _ h => h) (Or.inl ⟨by rfl,?_⟩) ?_ ?_;rotate_left
                     ·intro w'
                      go_simp
                      with_reducible rfl
                     rotate_left
                     ·simp only [Act.put,pS]
                      rfl
                     refine take_ (i:=2) (N:=some 72) (v:=?_) (a':=?_) #[true,true,true,true,true,false,true,true,false,false,false,false,false,false,false] rfl rfl (take_ofW HT_.out HW_.out (by kernel_rfl)) (fun _ _ _ h => h) (Or.inl ⟨by rfl,?_⟩) hHeld ?_ ?_;rotate_left
                     ·rintro w' ⟨s0,s1,s2⟩
                      go_simp
                      with_reducible rfl
                     rotate_left
                     ·simp only [Act.put,pS]
                      rfl
                     refine pure_ (i:=9) (N:=some 79) (v:=?_) (a':=?_) #[true,true,true,true,true,false,true,true,false,true,false,false,false,false,false] rfl rfl (any_of HT_.out (by kernel_rfl)) (fun _ _ _ h => h) (Or.inl ⟨by rfl,?_⟩) ?_ ?_;rotate_left
                     ·intro w'
                      go_simp
                      with_reducible rfl
                     rotate_left
                     ·simp only [Act.put,pS]
                      rfl
                     refine take_ (i:=5) (N:=some 75) (v:=?_) (a':=?_) #[true,true,true,true,true,true,true,true,false,true,false,false,false,false,false] rfl rfl (take_ofW HT_.out HW_.out (by kernel_rfl)) (fun _ _ _ h => h) (Or.inl ⟨by rfl,?_⟩) hHeld ?_ ?_;rotate_left
                     ·rintro w' ⟨s0,s1,s2⟩
                      go_simp
                      with_reducible rfl
                     rotate_left
                     ·simp only [Act.put,pS]
                      rfl
                     refine take_ (i:=8) (N:=some 78) (v:=?_) (a':=?_) #[true,true,true,true,true,true,true,true,true,true,false,false,false,false,false] rfl rfl (take_ofW HT_.out HW_.out (by kernel_rfl)) (fun _ _ _ h => h) (Or.inl ⟨by rfl,?_⟩) hHeld ?_ ?_;rotate_left
                     ·rintro w' ⟨s0,s1,s2⟩
                      go_simp
                      with_reducible rfl
                     rotate_left
                     ·simp only [Act.put,pS]
                      rfl
                     refine one_ (i:=10) (N:=none) #[true,true,true,true,true,true,true,true,true,true,true,false,false,false,false] rfl rfl (one_of HT_.out (by kernel_rfl)) (by decide) (fun K hK => ?_);have hs69:=cC_ BK305 2 rfl;have hfs69:=kF BK305.out 2;have hns69_0:=NB304_305.out;have hms69_0:=NB305_304.out;refine skip_ (w1:=?_) (by rfl) rfl ?_ ?_;rotate_left
                     ·go_simp
                      rfl
                     have hq1_:=Kd.own_blk (Kd.R_ne HO323.out BK305.out (by decide));refine hK.out _ _ ⟨((cell_far (p:=⟨gb305,_,none⟩) (by first|exact hq1_|(dsimp only;exact hq1_)) _).trans (hHeld.1)),((cell_far (p:=⟨gb305,_,none⟩) (by first|exact hq1_|(dsimp only;exact hq1_)) _).trans (hHeld.2.1)),((cell_far (p:=⟨gb305,_,none⟩) (by first|exact hq1_|(dsimp only;exact hq1_)) _).trans (hHeld.2.2))⟩ (fun hHeld => ?_);clear hq1_;clear hK K;refine pure_ (i:=11) (N:=some 80) (v:=?_) (a':=?_) #[true,true,true,true,true,true,true,true,true,true,true,true,false,false,false] rfl rfl (any_of HT_.out (by kernel_rfl)) (fun _ _ _ h => h) (Or.inl ⟨by rfl,?_⟩) ?_ ?_;rotate_left
                     ·intro w'
                      go_simp
                      with_reducible rfl
                     rotate_left
                     ·simp only [Act.put,pS]
                      rfl
                     refine one_ (i:=12) (N:=none) #[true,true,true,true,true,true,true,true,true,true,true,true,true,false,false] rfl rfl (one_of HT_.out (by kernel_rfl)) (by decide) (fun K hK => ?_);have hs70:=cC_ BK305 3 rfl;have hfs70:=kF BK305.out 3;have hns70_0:=NB304_305.out;have hms70_0:=NB305_304.out;refine skip_ (w1:=?_) (by rfl) rfl ?_ ?_;rotate_left
                     ·go_simp
                      rfl
                     have hq2_:=Kd.own_blk (Kd.R_ne HO323.out BK305.out (by decide));refine hK.out _ _ ⟨((cell_far (p:=⟨gb305,_,none⟩) (by first|exact hq2_|(dsimp only;exact hq2_)) _).trans (hHeld.1)),((cell_far (p:=⟨gb305,_,none⟩) (by first|exact hq2_|(dsimp only;exact hq2_)) _).trans (hHeld.2.1)),((cell_far (p:=⟨gb305,_,none⟩) (by first|exact hq2_|(dsimp only;exact hq2_)) _).trans (hHeld.2.2))⟩ (fun hHeld => ?_);clear hq2_;clear hK K;refine pure_ (i:=13) (N:=some 81) (v:=?_) (a':=?_) #[true,true,true,true,true,true,true,true,true,true,true,true,true,true,false] rfl rfl (any_of HT_.out (by kernel_rfl)) (fun _ _ _ h => h) (Or.inl ⟨by rfl,?_⟩) ?_ ?_;rotate_left
                     ·intro w'
                      go_simp
                      with_reducible rfl
                     rotate_left
                     ·simp only [Act.put,pS]
                      rfl
                     refine one_ (i:=14) (N:=none) #[true,true,true,true,true,true,true,true,true,true,true,true,true,true,true] rfl rfl (one_of HT_.out (by kernel_rfl)) (by decide) (fun K hK => ?_);have hs71:=cC_ BK305 4 rfl;have hfs71:=kF BK305.out 4;have hns71_0:=NB304_305.out;have hms71_0:=NB305_304.out;refine skip_ (w1:=?_) (by rfl) rfl ?_ ?_;rotate_left
                     ·go_simp
                      rfl
                     have hq3_:=Kd.own_blk (Kd.R_ne HO323.out BK305.out (by decide));refine hK.out _ _ ⟨((cell_far (p:=⟨gb305,_,none⟩) (by first|exact hq3_|(dsimp only;exact hq3_)) _).trans (hHeld.1)),((cell_far (p:=⟨gb305,_,none⟩) (by first|exact hq3_|(dsimp only;exact hq3_)) _).trans (hHeld.2.1)),((cell_far (p:=⟨gb305,_,none⟩) (by first|exact hq3_|(dsimp only;exact hq3_)) _).trans (hHeld.2.2))⟩ (fun hHeld => ?_);clear hq3_;clear hK K;refine done_ (done_of HT_.out (by kernel_rfl)) ?_;have hnb72:=NB304_305.out;have hnc72:=NB305_304.out;have hcz73_0:=cC_ BK304 0 rfl;have hcz73_1:=cC_ BK304 1 rfl;have hcz73_2:=cC_ BK304 2 rfl;have hcz73_3:=cC_ BK304 3 rfl;have hcz73_4:=cC_ BK304 4 rfl;have hcz73_5:=cC_ BK304 5 rfl;have hcz73_6:=cC_ BK304 6 rfl;have hfz73_0:=kF BK304.out 0;have hfz73_1:=kF BK304.out 1;have hfz73_2:=kF BK304.out 2;have hfz73_3:=kF BK304.out 3;have hfz73_4:=kF BK304.out 4;have hfz73_5:=kF BK304.out 5;have hfz73_6:=kF BK304.out 6
                     try go_wp2
                     refine bodyPost_ret (results_cell_row rfl _ _ gb304 32 #[.int .i64 1,.int .i64 t320,.slice none 0 0,.slice none 0 0,.int .i64 0,.int .i64 0,.int .i64 0] (0,0) _ rfl (by (with_reducible repeat (first|refine kN ?_ _|refine kD ?_|refine kA ?_ _));refine blk_put (cs:=#[.int .i64 1,.int .i64 t320,.slice none 0 0,.slice none 0 0,.int .i64 0,.int .i64 0,.int .i64 x305006_3]) ?_ 6 _ rfl;(with_reducible repeat (first|refine kN ?_ _|refine kD ?_|refine kA ?_ _));refine blk_put (cs:=#[.int .i64 1,.int .i64 t320,.slice none 0 0,.slice none 0 0,.int .i64 0,.int .i64 x305005_3,.int .i64 x305006_3]) ?_ 5 _ rfl;(with_reducible repeat (first|refine kN ?_ _|refine kD ?_|refine kA ?_ _));refine blk_put (cs:=#[.int .i64 1,.int .i64 t320,.slice none 0 0,.slice none 0 0,.int .i64 x305004_3,.int .i64 x305005_3,.int .i64 x305006_3]) ?_ 4 _ rfl;(with_reducible repeat (first|refine kN ?_ _|refine kD ?_|refine kA ?_ _));refine blk_put (cs:=#[.int .i64 1,.int .i64 t320,.slice none 0 0,.slice none 0 0,.int .i64 x305004_3,.int .i64 x305005_3,.int .i64 x305006_3]) ?_ 3 _ rfl;(with_reducible repeat (first|refine kN ?_ _|refine kD ?_|refine kA ?_ _));refine blk_put (cs:=#[.int .i64 1,.int .i64 t320,.slice none 0 0,.slice none 0 0,.int .i64 x305004_3,.int .i64 x305005_3,.int .i64 x305006_3]) ?_ 2 _ rfl;(with_reducible repeat (first|refine kN ?_ _|refine kD ?_|refine kA ?_ _));refine blk_put (cs:=#[.int .i64 1,.int .i64 x305001_3,.slice none 0 0,.slice none 0 0,.int .i64 x305004_3,.int .i64 x305005_3,.int .i64 x305006_3]) ?_ 1 _ rfl;(with_reducible repeat (first|refine kN ?_ _|refine kD ?_|refine kA ?_ _));refine blk_put (cs:=#[.int .i64 x305000_3,.int .i64 x305001_3,.slice none 0 0,.slice none 0 0,.int .i64 x305004_3,.int .i64 x305005_3,.int .i64 x305006_3]) ?_ 0 _ rfl;(with_reducible repeat (first|refine kN ?_ _|refine kD ?_|refine kA ?_ _));refine blk_far ?_ NB304_305.out _;(with_reducible repeat (first|refine kN ?_ _|refine kD ?_|refine kA ?_ _));refine blk_far ?_ NB304_305.out _;(with_reducible repeat (first|refine kN ?_ _|refine kD ?_|refine kA ?_ _));refine blk_far ?_ NB304_305.out _;(with_reducible repeat (first|refine kN ?_ _|refine kD ?_|refine kA ?_ _));exact BK304.out) Tryd.underlying32 rfl (by kernel_rfl)) rfl ?_;exact ⟨_,_,by first|rfl|(simp [errW_none,errW_some] <;> rfl)|(simp only [← hji35];first|rfl|(simp [errW_none,errW_some] <;> rfl))|(simp [*,errW_none,errW_some] <;> rfl),by first|exact Kd.R_nil _ _ _ _ _|exact Kd.N_nil _ _ _ _ _|exact Kd.V_nil _ _ _ _ _|exact Kd.Q_nil _ _ _ _ _|exact Kd.S_nil _ _ _ _ _,by first|exact Kd.R_nil _ _ _ _ _|exact Kd.N_nil _ _ _ _ _|exact Kd.V_nil _ _ _ _ _|exact Kd.Q_nil _ _ _ _ _|exact Kd.S_nil _ _ _ _ _,bL HB⟩
                    ·rw [if_neg c65] at H;have c65b0 : decide (t320 < (a0.size : Int)) = false:=decide_eq_false c65;clear c65;replace H:=Option.bind_eq_some_iff.mp H;obtain ⟨t338,A740,H⟩:=H;have A74:=Am A740;clear A740
                     by_cases c75 : t338 = 0
                     ·rw [if_pos c75] at H;have c75b0 : (t338 == 0) = true:=beq_iff_eq.mpr c75;have c75b1 : (t338 != 0) = false:=bne_eq_false_iff_eq.mpr c75;clear c75;simp only [Option.some.injEq,Prod.mk.injEq] at H;obtain ⟨rfl,rfl,rfl,rfl,rfl,rfl,rfl⟩:=H;have p318 : 0 ≤ (x36_3 : Int):=of_decide_eq_true (by first|(with_reducible assumption)|assumption);have q318 : x36_3 < (x5_6.length : Int):=of_decide_eq_true (by first|(with_reducible assumption)|assumption);obtain ⟨ad318,e318,hx318_0⟩:=Kd.at_string (Kd.R_reads' HO_34.out).2.2 x36_3 p318 q318;cases e318;replace p318:=eq_true p318;replace q318:=eq_true q318
                      try go_wp2_with (first|((with_reducible refine gate_callee (f:=22) rfl ?_);refine goesL_ (some 44) rfl rfl Tryd.func22 (by kernel_rfl) rfl #[.string a0,.int .i64 x4_1,.string (rdOf ByteArray.empty x5_6 x36_3)] rfl lA ?_;(with_reducible refine (impl_match.calls k3 a0 x4_1 (rdOf ByteArray.empty x5_6 x36_3) t319 t320 true _ A34.out).mono ?_);rintro e w76 ⟨v322,rfl,ho0,hb⟩;refine ⟨_,rfl,?_⟩;have n0_:=Am (Kd.R_below (rL HO_34) hb);have n1_:=Am (Kd.R_below (rL HO_306000) hb);have n2_:=Am (Kd.R_below (rL HO_306001) hb);have n3_:=Am (Kd.R_lower ho0 (below_size (bL HB)));have n4_:=Am (blk_below (g:=gb304) (o:=.cells #[.int .i64 x305000_3,.int .i64 x305001_3,.slice none 0 0,.slice none 0 0,.int .i64 x305004_3,.int .i64 x305005_3,.int .i64 x305006_3] 32 (0,0)) (kL BK304) hb);have n5_:=Am (blk_below (g:=gb305) (o:=.cells #[u306000,u306001,.int .i64 x306002_3,.int .i64 x306003_3,.int .i64 x306004_3] 26 (0,0)) (kL BK305) hb);have n6_:=Am (below_step (bL HB) hb);clear HO_34;clear HO_306000;clear HO_306001;clear BK304;clear BK305;clear HB;have HO_34:=n0_;have HO_306000:=n1_;have HO_306001:=n2_;have HO323:=n3_;have BK304:=n4_;have BK305:=n5_;have HB:=n6_;clear n0_ n1_ n2_ n3_ n4_ n5_ n6_;(try clear hb);(try clear hb2);(try clear hk);(try clear hi);(try clear ho0);have p51 : 0 ≤ (3 : Int):=(by omega);have q51 : 3 < (rdOf ByteArray.empty x5_6 x36_3).size:=(by have : (3 : Int) < ((rdOf ByteArray.empty x5_6 x36_3).size : Int):=of_decide_eq_true (by first|(with_reducible assumption)|assumption);omega);have hx51 : ∀ h : 3 < (rdOf ByteArray.empty x5_6 x36_3).size,(((rdOf ByteArray.empty x5_6 x36_3)[3]'h).toNat : Int) = bt (rdOf ByteArray.empty x5_6 x36_3) 3:=bt_at (rdOf ByteArray.empty x5_6 x36_3) 3;clear p51;have qi51 : (3 < ((rdOf ByteArray.empty x5_6 x36_3).size : Int)) = True:=eq_true (of_decide_eq_true (by first|(with_reducible assumption)|assumption));replace q51:=eq_true q51))
                      have n0_:=Am (Kd.R_drew HO_34.out);have n1_:=Am (Kd.R_drew HO_306000.out);have n2_:=Am (Kd.R_drew HO_306001.out);have n3_:=Am (Kd.R_drew HO323.out);have n4_:=Am (kD BK304.out);have n5_:=Am (kD BK305.out);have n6_:=Am (bD HB.out);clear HO_34;clear HO_306000;clear HO_306001;clear HO323;clear BK304;clear BK305;clear HB;have HO_34:=n0_;have HO_306000:=n1_;have HO_306001:=n2_;have HO323:=n3_;have BK304:=n4_;have BK305:=n5_;have HB:=n6_;clear n0_ n1_ n2_ n3_ n4_ n5_ n6_;obtain ⟨Ao78,co78,eo78⟩:=Kd.R_slice HO323.out
                      (first|subst eo78|(injection eo78 with f1_ f2_ f3_;have f4_:=f1_.symm;have f5_:=f3_.symm;clear f1_ f2_ f3_;subst f4_;subst f5_))
                      have p335 : 0 ≤ (0 : Int):=(by omega)
                      have q335 : 0 < (t319.length : Int):=of_decide_eq_true (by first|(with_reducible assumption)|assumption);obtain ⟨ad335,e335,hx335_0⟩:=Kd.at_int (Kd.R_reads' HO323.out).2.2 0 p335 q335;cases e335;have qi335 : (0 < t319.length) = True:=eq_true (by omega)
                      (try rw [show ((0 : Int)).toNat = 0 from rfl] at hx335_0)
                      (try rw [Addr.add_zero'] at hx335_0)
                      replace p335:=eq_true p335;replace q335:=eq_true q335
                      have p336 : 0 ≤ (1 : Int):=(by omega)
                      have q336 : 1 < (t319.length : Int):=of_decide_eq_true (by first|(with_reducible assumption)|assumption);obtain ⟨ad336,e336,hx336_0⟩:=Kd.at_int (Kd.R_reads' HO323.out).2.2 1 p336 q336
                      obtain rfl : ad335 = ad336:=(by injection e336)
                      (try simp only [show (1 : Int).toNat = 1 from rfl,Nat.reduceMul,Nat.reduceEqDiff,Go.Addr.add,↓reduceIte] at hx336_0)
                      have qi336 : (1 < t319.length) = True:=eq_true (by omega)
                      (try rw [show ((1 : Int)).toNat = 1 from rfl] at hx336_0)
                      replace p336:=eq_true p336;replace q336:=eq_true q336
                      have p337 : 0 ≤ (2 : Int):=(by omega)
                      have q337 : 2 < (t319.length : Int):=of_decide_eq_true (by first|(with_reducible assumption)|assumption);obtain ⟨ad337,e337,hx337_0⟩:=Kd.at_int (Kd.R_reads' HO323.out).2.2 2 p337 q337
                      obtain rfl : ad335 = ad337:=(by injection e337)
                      (try simp only [show (2 : Int).toNat = 2 from rfl,Nat.reduceMul,Nat.reduceEqDiff,Go.Addr.add,↓reduceIte] at hx337_0)
                      have qi337 : (2 < t319.length) = True:=eq_true (by omega)
                      (try rw [show ((2 : Int)).toNat = 2 from rfl] at hx337_0)
                      replace p337:=eq_true p337;replace q337:=eq_true q337;refine start_ (n:=15) (S:=fun w' => w'.cell? ad335 = some (.int .i64 (rd t319 0))∧w'.cell? ⟨ad335.block,ad335.off + 1,none⟩ = some (.int .i64 (rd t319 1))∧w'.cell? ⟨ad335.block,ad335.off + 2,none⟩ = some (.int .i64 (rd t319 2))) (ds:=[]) #[false,false,false,false,false,false,false,false,false,false,false,false,false,false,false] (by kernel_rfl) rfl rfl ⟨hx335_0,hx336_0,hx337_0⟩ (fun hHeld => ?_);refine with_tabW impl_ReadProfile.tab21 impl_ReadProfile.bits21 (fun HT_ HW_ => ?_);generalize w76.drew = w77 at HO_34 HO_306000 HO_306001 HO323 BK304 BK305 HB hx335_0 hx336_0 hx337_0 hHeld ⊢;refine pure_ (i:=0) (N:=some 70) (v:=?_) (a':=?_) #[true,false,false,false,false,false,false,false,false,false,false,false,false,false,false] rfl rfl (any_of HT_.out (by kernel_rfl)) (fun _ _ _ h => h) (Or.inl ⟨by rfl,?_⟩) ?_ ?_;rotate_left
                      ·intro w'
                       go_simp
                       with_reducible rfl
                      rotate_left
                      ·simp only [Act.put,pS]
                       rfl
                      refine pure_ (i:=1) (N:=some 71) (v:=?_) (a':=?_) #[true,true,false,false,false,false,false,false,false,false,false,false,false,false,false] rfl rfl (any_of HT_.out (by kernel_rfl)) (fun _ _ _ h => h) (Or.inl ⟨by rfl,?_⟩) ?_ ?_;rotate_left
                      ·intro w'
                       go_simp
                       with_reducible rfl
                      rotate_left
                      ·simp only [Act.put,pS]
                       rfl
                      refine pure_ (i:=3) (N:=some 73) (v:=?_) (a':=?_) #[true,true,false,true,false,false,false,false,false,false,false,false,false,false,false] rfl rfl (any_of HT_.out (by kernel_rfl)) (fun _ _ _ h => h) (Or.inl ⟨by rfl,?_⟩) ?_ ?_;rotate_left
                      ·intro w'
                       go_simp
                       with_reducible rfl
                      rotate_left
                      ·simp only [Act.put,pS]
                       rfl
                      refine pure_ (i:=4) (N:=some 74) (v:=?_) (a':=?_) #[true,true,false,true,true,false,false,false,false,false,false,false,false,false,false] rfl rfl (any_of HT_.out (by kernel_rfl)) (fun _ _ _ h => h) (Or.inl ⟨by rfl,?_⟩) ?_ ?_;rotate_left
                      ·intro w'
                       go_simp
                       with_reducible rfl
                      rotate_left
                      ·simp only [Act.put,pS]
                       rfl
                      refine pure_ (i:=6) (N:=some 76) (v:=?_) (a':=?_) #[true,true,false,true,true,false,true,false,false,false,false,false,false,false,false] rfl rfl (any_of HT_.out (by kernel_rfl)) (fun _ _ _ h => h) (Or.inl ⟨by rfl,?_⟩) ?_ ?_;rotate_left
                      ·intro w'
                       go_simp
                       with_reducible rfl
                      rotate_left
                      ·simp only [Act.put,pS]
                       rfl
                      refine pure_ (i:=7) (N:=some 77) (v:=?_) (a':=?_) #[true,true,false,true,true,false,true,true,false,false,false,false,false,false,false] rfl rfl (any_of HT_.out (by kernel_rfl)) (fun _ _ _ h => h) (Or.inl ⟨by rfl,?_⟩) ?_ ?_;rotate_left
                      ·intro w'
                       go_simp
                       with_reducible rfl
                      rotate_left
                      ·simp only [Act.put,pS]
                       rfl
                      refine take_ (i:=2) (N:=some 72) (v:=?_) (a':=?_) #[true,true,true,true,true,false,true,true,false,false,false,false,false,false,false] rfl rfl (take_ofW HT_.out HW_.out (by kernel_rfl)) (fun _ _ _ h => h) (Or.inl ⟨by rfl,?_⟩) hHeld ?_ ?_;rotate_left
                      ·rintro w' ⟨s0,s1,s2⟩
                       go_simp
                       with_reducible rfl
                      rotate_left
                      ·simp only [Act.put,pS]
                       rfl
                      refine pure_ (i:=9) (N:=some 79) (v:=?_) (a':=?_) #[true,true,true,true,true,false,true,true,false,true,false,false,false,false,false] rfl rfl (any_of HT_.out (by kernel_rfl)) (fun _ _ _ h => h) (Or.inl ⟨by rfl,?_⟩) ?_ ?_;rotate_left
                      ·intro w'
                       go_simp
                       with_reducible rfl
                      rotate_left
                      ·simp only [Act.put,pS]
                       rfl
                      refine take_ (i:=5) (N:=some 75) (v:=?_) (a':=?_) #[true,true,true,true,true,true,true,true,false,true,false,false,false,false,false] rfl rfl (take_ofW HT_.out HW_.out (by kernel_rfl)) (fun _ _ _ h => h) (Or.inl ⟨by rfl,?_⟩) hHeld ?_ ?_;rotate_left
                      ·rintro w' ⟨s0,s1,s2⟩
                       go_simp
                       with_reducible rfl
                      rotate_left
                      ·simp only [Act.put,pS]
                       rfl
                      refine take_ (i:=8) (N:=some 78) (v:=?_) (a':=?_) #[true,true,true,true,true,true,true,true,true,true,false,false,false,false,false] rfl rfl (take_ofW HT_.out HW_.out (by kernel_rfl)) (fun _ _ _ h => h) (Or.inl ⟨by rfl,?_⟩) hHeld ?_ ?_;rotate_left
                      ·rintro w' ⟨s0,s1,s2⟩
                       go_simp
                       with_reducible rfl
                      rotate_left
                      ·simp only [Act.put,pS]
                       rfl
                      refine one_ (i:=10) (N:=none) #[true,true,true,true,true,true,true,true,true,true,true,false,false,false,false] rfl rfl (one_of HT_.out (by kernel_rfl)) (by decide) (fun K hK => ?_);have hs79:=cC_ BK305 2 rfl;have hfs79:=kF BK305.out 2;have hns79_0:=NB304_305.out;have hms79_0:=NB305_304.out;refine skip_ (w1:=?_) (by rfl) rfl ?_ ?_;rotate_left
                      ·go_simp
                       rfl
                      have hq4_:=Kd.own_blk (Kd.R_ne HO323.out BK305.out (by decide));refine hK.out _ _ ⟨((cell_far (p:=⟨gb305,_,none⟩) (by first|exact hq4_|(dsimp only;exact hq4_)) _).trans (hHeld.1)),((cell_far (p:=⟨gb305,_,none⟩) (by first|exact hq4_|(dsimp only;exact hq4_)) _).trans (hHeld.2.1)),((cell_far (p:=⟨gb305,_,none⟩) (by first|exact hq4_|(dsimp only;exact hq4_)) _).trans (hHeld.2.2))⟩ (fun hHeld => ?_);clear hq4_;clear hK K;refine pure_ (i:=11) (N:=some 80) (v:=?_) (a':=?_) #[true,true,true,true,true,true,true,true,true,true,true,true,false,false,false] rfl rfl (any_of HT_.out (by kernel_rfl)) (fun _ _ _ h => h) (Or.inl ⟨by rfl,?_⟩) ?_ ?_;rotate_left
                      ·intro w'
                       go_simp
                       with_reducible rfl
                      rotate_left
                      ·simp only [Act.put,pS]
                       rfl
                      refine one_ (i:=12) (N:=none) #[true,true,true,true,true,true,true,true,true,true,true,true,true,false,false] rfl rfl (one_of HT_.out (by kernel_rfl)) (by decide) (fun K hK => ?_);have hs80:=cC_ BK305 3 rfl;have hfs80:=kF BK305.out 3;have hns80_0:=NB304_305.out;have hms80_0:=NB305_304.out;refine skip_ (w1:=?_) (by rfl) rfl ?_ ?_;rotate_left
                      ·go_simp
                       rfl
                      have hq5_:=Kd.own_blk (Kd.R_ne HO323.out BK305.out (by decide));refine hK.out _ _ ⟨((cell_far (p:=⟨gb305,_,none⟩) (by first|exact hq5_|(dsimp only;exact hq5_)) _).trans (hHeld.1)),((cell_far (p:=⟨gb305,_,none⟩) (by first|exact hq5_|(dsimp only;exact hq5_)) _).trans (hHeld.2.1)),((cell_far (p:=⟨gb305,_,none⟩) (by first|exact hq5_|(dsimp only;exact hq5_)) _).trans (hHeld.2.2))⟩ (fun hHeld => ?_);clear hq5_;clear hK K;refine pure_ (i:=13) (N:=some 81) (v:=?_) (a':=?_) #[true,true,true,true,true,true,true,true,true,true,true,true,true,true,false] rfl rfl (any_of HT_.out (by kernel_rfl)) (fun _ _ _ h => h) (Or.inl ⟨by rfl,?_⟩) ?_ ?_;rotate_left
                      ·intro w'
                       go_simp
                       with_reducible rfl
                      rotate_left
                      ·simp only [Act.put,pS]
                       rfl
                      refine one_ (i:=14) (N:=none) #[true,true,true,true,true,true,true,true,true,true,true,true,true,true,true] rfl rfl (one_of HT_.out (by kernel_rfl)) (by decide) (fun K hK => ?_);have hs81:=cC_ BK305 4 rfl;have hfs81:=kF BK305.out 4;have hns81_0:=NB304_305.out;have hms81_0:=NB305_304.out;refine skip_ (w1:=?_) (by rfl) rfl ?_ ?_;rotate_left
                      ·go_simp
                       rfl
                      have hq6_:=Kd.own_blk (Kd.R_ne HO323.out BK305.out (by decide));refine hK.out _ _ ⟨((cell_far (p:=⟨gb305,_,none⟩) (by first|exact hq6_|(dsimp only;exact hq6_)) _).trans (hHeld.1)),((cell_far (p:=⟨gb305,_,none⟩) (by first|exact hq6_|(dsimp only;exact hq6_)) _).trans (hHeld.2.1)),((cell_far (p:=⟨gb305,_,none⟩) (by first|exact hq6_|(dsimp only;exact hq6_)) _).trans (hHeld.2.2))⟩ (fun hHeld => ?_);clear hq6_;clear hK K;refine done_ (done_of HT_.out (by kernel_rfl)) ?_;have hnb82:=NB305_304.out;have hnc82:=NB304_305.out;have hcz83_0:=cC_ BK305 0 rfl;have hcz83_1:=cC_ BK305 1 rfl;have hcz83_2:=cC_ BK305 2 rfl;have hcz83_3:=cC_ BK305 3 rfl;have hcz83_4:=cC_ BK305 4 rfl;have hfz83_0:=kF BK305.out 0;have hfz83_1:=kF BK305.out 1;have hfz83_2:=kF BK305.out 2;have hfz83_3:=kF BK305.out 3;have hfz83_4:=kF BK305.out 4;obtain ⟨Ao84,co84,eo84⟩:=Kd.R_slice HO_306000.out;subst eo84;obtain ⟨Ao85,co85,eo85⟩:=Kd.R_slice HO_306001.out;subst eo85
                      try go_wp2_with (first|((with_reducible refine gate_callee (f:=15) rfl ?_);refine goesL_ (some 89) rfl rfl Tryd.func15 (by kernel_rfl) rfl #[.agg #[.slice Ao84 x306000_3.length co84,.slice Ao85 x306001_3.length co85,.int .i64 (rd t319 0),.int .i64 (rd t319 1),.int .i64 (rd t319 2)]] rfl lA ?_;(with_reducible refine (impl_ProfileOk.calls _ _ x306000_3 _ _ x306001_3 (rd t319 0) (rd t319 1) (rd t319 2) t338 _ ?side1 ?side2 ?side3 ?side4 A74.out).mono ?_);(case side1 => refine (Kd.R_reads' (e:=49) (base:=w.heap.size) (ok:=fun k_ => True) (n:=x306000_3.length) (c:=co84) ?_).2.2;exact (by (with_reducible repeat (first|apply Kd.R_alloc|apply Kd.R_drewN|apply Kd.R_drew));exact (Kd.R_mono (Kd.R_far (p:=⟨gb305,4,none⟩) (Kd.R_far (p:=⟨gb305,3,none⟩) (Kd.R_far (p:=⟨gb305,2,none⟩) (Kd.R_types HO_306000.out BK305.out (by decide)) (fun _ hk => hk.2) (.int .i64 (rd t319 0))) (fun _ hk => hk.2) (.int .i64 (rd t319 1))) (fun _ hk => hk.2) (.int .i64 (rd t319 2))) (fun _ h_ => h_.1))));(case side2 => exact (Kd.R_reads' HO_306000.out).2.1);(case side3 => refine (Kd.R_reads' (e:=56) (base:=w.heap.size) (ok:=fun k_ => True) (n:=x306001_3.length) (c:=co85) ?_).2.2;exact (by (with_reducible repeat (first|apply Kd.R_alloc|apply Kd.R_drewN|apply Kd.R_drew));exact (Kd.R_mono (Kd.R_far (p:=⟨gb305,4,none⟩) (Kd.R_far (p:=⟨gb305,3,none⟩) (Kd.R_far (p:=⟨gb305,2,none⟩) (Kd.R_types HO_306001.out BK305.out (by decide)) (fun _ hk => hk.2) (.int .i64 (rd t319 0))) (fun _ hk => hk.2) (.int .i64 (rd t319 1))) (fun _ hk => hk.2) (.int .i64 (rd t319 2))) (fun _ h_ => h_.1))));(case side4 => exact (Kd.R_reads' HO_306001.out).2.1);rintro e w86 ⟨rfl,hb⟩;refine ⟨_,rfl,?_⟩;have n0_:=Am (Kd.R_below (by (with_reducible repeat (first|apply Kd.R_alloc|apply Kd.R_drewN|apply Kd.R_drew));exact (Kd.R_mono (Kd.R_far (p:=⟨gb305,4,none⟩) (Kd.R_far (p:=⟨gb305,3,none⟩) (Kd.R_far (p:=⟨gb305,2,none⟩) (Kd.R_types HO_34.out BK305.out (by decide)) (fun _ hk => hk.2) (.int .i64 (rd t319 0))) (fun _ hk => hk.2) (.int .i64 (rd t319 1))) (fun _ hk => hk.2) (.int .i64 (rd t319 2))) (fun _ h_ => h_.1))) hb);have n1_:=Am (Kd.R_below (by (with_reducible repeat (first|apply Kd.R_alloc|apply Kd.R_drewN|apply Kd.R_drew));exact (Kd.R_mono (Kd.R_far (p:=⟨gb305,4,none⟩) (Kd.R_far (p:=⟨gb305,3,none⟩) (Kd.R_far (p:=⟨gb305,2,none⟩) (Kd.R_types HO_306000.out BK305.out (by decide)) (fun _ hk => hk.2) (.int .i64 (rd t319 0))) (fun _ hk => hk.2) (.int .i64 (rd t319 1))) (fun _ hk => hk.2) (.int .i64 (rd t319 2))) (fun _ h_ => h_.1))) hb);have n2_:=Am (Kd.R_below (by (with_reducible repeat (first|apply Kd.R_alloc|apply Kd.R_drewN|apply Kd.R_drew));exact (Kd.R_mono (Kd.R_far (p:=⟨gb305,4,none⟩) (Kd.R_far (p:=⟨gb305,3,none⟩) (Kd.R_far (p:=⟨gb305,2,none⟩) (Kd.R_types HO_306001.out BK305.out (by decide)) (fun _ hk => hk.2) (.int .i64 (rd t319 0))) (fun _ hk => hk.2) (.int .i64 (rd t319 1))) (fun _ hk => hk.2) (.int .i64 (rd t319 2))) (fun _ h_ => h_.1))) hb);have n3_:=Am (Kd.R_below (by (with_reducible repeat (first|apply Kd.R_alloc|apply Kd.R_drewN|apply Kd.R_drew));exact (Kd.R_mono (Kd.R_far (p:=⟨gb305,4,none⟩) (Kd.R_far (p:=⟨gb305,3,none⟩) (Kd.R_far (p:=⟨gb305,2,none⟩) (Kd.R_types HO323.out BK305.out (by decide)) (fun _ hk => hk.2) (.int .i64 (rd t319 0))) (fun _ hk => hk.2) (.int .i64 (rd t319 1))) (fun _ hk => hk.2) (.int .i64 (rd t319 2))) (fun _ h_ => h_.1))) hb);have n4_:=Am (blk_below (g:=gb304) (o:=.cells #[.int .i64 x305000_3,.int .i64 x305001_3,.slice none 0 0,.slice none 0 0,.int .i64 x305004_3,.int .i64 x305005_3,.int .i64 x305006_3] 32 (0,0)) (by (with_reducible repeat (first|refine kN ?_ _|refine kD ?_|refine kA ?_ _));refine blk_far ?_ NB304_305.out _;(with_reducible repeat (first|refine kN ?_ _|refine kD ?_|refine kA ?_ _));refine blk_far ?_ NB304_305.out _;(with_reducible repeat (first|refine kN ?_ _|refine kD ?_|refine kA ?_ _));refine blk_far ?_ NB304_305.out _;(with_reducible repeat (first|refine kN ?_ _|refine kD ?_|refine kA ?_ _));exact BK304.out) hb);have n5_:=Am (blk_below (g:=gb305) (o:=.cells #[.slice Ao84 x306000_3.length co84,.slice Ao85 x306001_3.length co85,.int .i64 (rd t319 0),.int .i64 (rd t319 1),.int .i64 (rd t319 2)] 26 (0,0)) (by (with_reducible repeat (first|refine kN ?_ _|refine kD ?_|refine kA ?_ _));refine blk_put (cs:=#[.slice Ao84 x306000_3.length co84,.slice Ao85 x306001_3.length co85,.int .i64 (rd t319 0),.int .i64 (rd t319 1),.int .i64 x306004_3]) ?_ 4 _ rfl;(with_reducible repeat (first|refine kN ?_ _|refine kD ?_|refine kA ?_ _));refine blk_put (cs:=#[.slice Ao84 x306000_3.length co84,.slice Ao85 x306001_3.length co85,.int .i64 (rd t319 0),.int .i64 x306003_3,.int .i64 x306004_3]) ?_ 3 _ rfl;(with_reducible repeat (first|refine kN ?_ _|refine kD ?_|refine kA ?_ _));refine blk_put (cs:=#[.slice Ao84 x306000_3.length co84,.slice Ao85 x306001_3.length co85,.int .i64 x306002_3,.int .i64 x306003_3,.int .i64 x306004_3]) ?_ 2 _ rfl;(with_reducible repeat (first|refine kN ?_ _|refine kD ?_|refine kA ?_ _));exact BK305.out) hb);have n6_:=Am (below_step (bL HB) hb);clear HO_34;clear HO_306000;clear HO_306001;clear HO323;clear BK304;clear BK305;clear HB;have HO_34:=n0_;have HO_306000:=n1_;have HO_306001:=n2_;have HO323:=n3_;have BK304:=n4_;have BK305:=n5_;have HB:=n6_;clear n0_ n1_ n2_ n3_ n4_ n5_ n6_;(try clear hb);(try clear hb2);(try clear hk);(try clear hi);have hcz87_0:=cC_ BK305 0 rfl;have hcz87_1:=cC_ BK305 1 rfl;have hcz87_2:=cC_ BK305 2 rfl;have hcz87_3:=cC_ BK305 3 rfl;have hcz87_4:=cC_ BK305 4 rfl;have hfz87_0:=kF BK305.out 0;have hfz87_1:=kF BK305.out 1;have hfz87_2:=kF BK305.out 2;have hfz87_3:=kF BK305.out 3;have hfz87_4:=kF BK305.out 4;have hcz88_0:=cC_ BK304 0 rfl;have hcz88_1:=cC_ BK304 1 rfl;have hcz88_2:=cC_ BK304 2 rfl;have hcz88_3:=cC_ BK304 3 rfl;have hcz88_4:=cC_ BK304 4 rfl;have hcz88_5:=cC_ BK304 5 rfl;have hcz88_6:=cC_ BK304 6 rfl;have hfz88_0:=kF BK304.out 0;have hfz88_1:=kF BK304.out 1;have hfz88_2:=kF BK304.out 2;have hfz88_3:=kF BK304.out 3;have hfz88_4:=kF BK304.out 4;have hfz88_5:=kF BK304.out 5;have hfz88_6:=kF BK304.out 6))
                      refine bodyPost_ret (results_cell_row rfl _ _ gb304 32 #[.int .i64 0,.int .i64 0,.slice Ao84 x306000_3.length co84,.slice Ao85 x306001_3.length co85,.int .i64 (rd t319 0),.int .i64 (rd t319 1),.int .i64 (rd t319 2)] (0,0) _ rfl (by (with_reducible repeat (first|refine kN ?_ _|refine kD ?_|refine kA ?_ _));refine blk_put (cs:=#[.int .i64 0,.int .i64 0,.slice Ao84 x306000_3.length co84,.slice Ao85 x306001_3.length co85,.int .i64 (rd t319 0),.int .i64 (rd t319 1),.int .i64 x305006_3]) ?_ 6 _ rfl;(with_reducible repeat (first|refine kN ?_ _|refine kD ?_|refine kA ?_ _));refine blk_put (cs:=#[.int .i64 0,.int .i64 0,.slice Ao84 x306000_3.length co84,.slice Ao85 x306001_3.length co85,.int .i64 (rd t319 0),.int .i64 x305005_3,.int .i64 x305006_3]) ?_ 5 _ rfl;(with_reducible repeat (first|refine kN ?_ _|refine kD ?_|refine kA ?_ _));refine blk_put (cs:=#[.int .i64 0,.int .i64 0,.slice Ao84 x306000_3.length co84,.slice Ao85 x306001_3.length co85,.int .i64 x305004_3,.int .i64 x305005_3,.int .i64 x305006_3]) ?_ 4 _ rfl;(with_reducible repeat (first|refine kN ?_ _|refine kD ?_|refine kA ?_ _));refine blk_put (cs:=#[.int .i64 0,.int .i64 0,.slice Ao84 x306000_3.length co84,.slice none 0 0,.int .i64 x305004_3,.int .i64 x305005_3,.int .i64 x305006_3]) ?_ 3 _ rfl;(with_reducible repeat (first|refine kN ?_ _|refine kD ?_|refine kA ?_ _));refine blk_put (cs:=#[.int .i64 0,.int .i64 0,.slice none 0 0,.slice none 0 0,.int .i64 x305004_3,.int .i64 x305005_3,.int .i64 x305006_3]) ?_ 2 _ rfl;(with_reducible repeat (first|refine kN ?_ _|refine kD ?_|refine kA ?_ _));refine blk_put (cs:=#[.int .i64 0,.int .i64 x305001_3,.slice none 0 0,.slice none 0 0,.int .i64 x305004_3,.int .i64 x305005_3,.int .i64 x305006_3]) ?_ 1 _ rfl;(with_reducible repeat (first|refine kN ?_ _|refine kD ?_|refine kA ?_ _));refine blk_put (cs:=#[.int .i64 x305000_3,.int .i64 x305001_3,.slice none 0 0,.slice none 0 0,.int .i64 x305004_3,.int .i64 x305005_3,.int .i64 x305006_3]) ?_ 0 _ rfl;(with_reducible repeat (first|refine kN ?_ _|refine kD ?_|refine kA ?_ _));exact BK304.out) Tryd.underlying32 rfl (by kernel_rfl)) rfl ?_;exact ⟨_,_,by first|rfl|(simp [errW_none,errW_some] <;> rfl)|(simp only [← hji35];first|rfl|(simp [errW_none,errW_some] <;> rfl))|(simp [*,errW_none,errW_some] <;> rfl),by (with_reducible repeat (first|apply Kd.R_alloc|apply Kd.R_drewN|apply Kd.R_drew));exact Kd.R_mono (Kd.R_far (p:=⟨gb304,6,none⟩) (Kd.R_far (p:=⟨gb304,5,none⟩) (Kd.R_far (p:=⟨gb304,4,none⟩) (Kd.R_far (p:=⟨gb304,3,none⟩) (Kd.R_far (p:=⟨gb304,2,none⟩) (Kd.R_far (p:=⟨gb304,1,none⟩) (Kd.R_far (p:=⟨gb304,0,none⟩) (Kd.R_types HO_306000.out BK304.out (by decide)) (fun _ hk => hk.2) (.int .i64 0)) (fun _ hk => hk.2) (.int .i64 0)) (fun _ hk => hk.2) (.slice Ao84 x306000_3.length co84)) (fun _ hk => hk.2) (.slice Ao85 x306001_3.length co85)) (fun _ hk => hk.2) (.int .i64 (rd t319 0))) (fun _ hk => hk.2) (.int .i64 (rd t319 1))) (fun _ hk => hk.2) (.int .i64 (rd t319 2))) (fun _ hk => trivial),by (with_reducible repeat (first|apply Kd.R_alloc|apply Kd.R_drewN|apply Kd.R_drew));exact Kd.R_mono (Kd.R_far (p:=⟨gb304,6,none⟩) (Kd.R_far (p:=⟨gb304,5,none⟩) (Kd.R_far (p:=⟨gb304,4,none⟩) (Kd.R_far (p:=⟨gb304,3,none⟩) (Kd.R_far (p:=⟨gb304,2,none⟩) (Kd.R_far (p:=⟨gb304,1,none⟩) (Kd.R_far (p:=⟨gb304,0,none⟩) (Kd.R_types HO_306001.out BK304.out (by decide)) (fun _ hk => hk.2) (.int .i64 0)) (fun _ hk => hk.2) (.int .i64 0)) (fun _ hk => hk.2) (.slice Ao84 x306000_3.length co84)) (fun _ hk => hk.2) (.slice Ao85 x306001_3.length co85)) (fun _ hk => hk.2) (.int .i64 (rd t319 0))) (fun _ hk => hk.2) (.int .i64 (rd t319 1))) (fun _ hk => hk.2) (.int .i64 (rd t319 2))) (fun _ hk => trivial),bL HB⟩
                     ·rw [if_neg c75] at H;have c75b0 : (t338 == 0) = false:=beq_eq_false_iff_ne.mpr c75;have c75b1 : (t338 != 0) = true:=bne_iff_ne.mpr c75;simp only [Option.some.injEq,Prod.mk.injEq] at H;obtain ⟨rfl,rfl,rfl,rfl,rfl,rfl,rfl⟩:=H;have p318 : 0 ≤ (x36_3 : Int):=of_decide_eq_true (by first|(with_reducible assumption)|assumption);have q318 : x36_3 < (x5_6.length : Int):=of_decide_eq_true (by first|(with_reducible assumption)|assumption);obtain ⟨ad318,e318,hx318_0⟩:=Kd.at_string (Kd.R_reads' HO_34.out).2.2 x36_3 p318 q318;cases e318;replace p318:=eq_true p318;replace q318:=eq_true q318
                      try go_wp2_with (first|((with_reducible refine gate_callee (f:=22) rfl ?_);refine goesL_ (some 44) rfl rfl Tryd.func22 (by kernel_rfl) rfl #[.string a0,.int .i64 x4_1,.string (rdOf ByteArray.empty x5_6 x36_3)] rfl lA ?_;(with_reducible refine (impl_match.calls k3 a0 x4_1 (rdOf ByteArray.empty x5_6 x36_3) t319 t320 true _ A34.out).mono ?_);rintro e w89 ⟨v322,rfl,ho0,hb⟩;refine ⟨_,rfl,?_⟩;have n0_:=Am (Kd.R_below (rL HO_34) hb);have n1_:=Am (Kd.R_below (rL HO_306000) hb);have n2_:=Am (Kd.R_below (rL HO_306001) hb);have n3_:=Am (Kd.R_lower ho0 (below_size (bL HB)));have n4_:=Am (blk_below (g:=gb304) (o:=.cells #[.int .i64 x305000_3,.int .i64 x305001_3,.slice none 0 0,.slice none 0 0,.int .i64 x305004_3,.int .i64 x305005_3,.int .i64 x305006_3] 32 (0,0)) (kL BK304) hb);have n5_:=Am (blk_below (g:=gb305) (o:=.cells #[u306000,u306001,.int .i64 x306002_3,.int .i64 x306003_3,.int .i64 x306004_3] 26 (0,0)) (kL BK305) hb);have n6_:=Am (below_step (bL HB) hb);clear HO_34;clear HO_306000;clear HO_306001;clear BK304;clear BK305;clear HB;have HO_34:=n0_;have HO_306000:=n1_;have HO_306001:=n2_;have HO323:=n3_;have BK304:=n4_;have BK305:=n5_;have HB:=n6_;clear n0_ n1_ n2_ n3_ n4_ n5_ n6_;(try clear hb);(try clear hb2);(try clear hk);(try clear hi);(try clear ho0);have p51 : 0 ≤ (3 : Int):=(by omega);have q51 : 3 < (rdOf ByteArray.empty x5_6 x36_3).size:=(by have : (3 : Int) < ((rdOf ByteArray.empty x5_6 x36_3).size : Int):=of_decide_eq_true (by first|(with_reducible assumption)|assumption);omega);have hx51 : ∀ h : 3 < (rdOf ByteArray.empty x5_6 x36_3).size,(((rdOf ByteArray.empty x5_6 x36_3)[3]'h).toNat : Int) = bt (rdOf ByteArray.empty x5_6 x36_3) 3:=bt_at (rdOf ByteArray.empty x5_6 x36_3) 3;clear p51;have qi51 : (3 < ((rdOf ByteArray.empty x5_6 x36_3).size : Int)) = True:=eq_true (of_decide_eq_true (by first|(with_reducible assumption)|assumption));replace q51:=eq_true q51))
                      have n0_:=Am (Kd.R_drew HO_34.out);have n1_:=Am (Kd.R_drew HO_306000.out);have n2_:=Am (Kd.R_drew HO_306001.out);have n3_:=Am (Kd.R_drew HO323.out);have n4_:=Am (kD BK304.out);have n5_:=Am (kD BK305.out);have n6_:=Am (bD HB.out);clear HO_34;clear HO_306000;clear HO_306001;clear HO323;clear BK304;clear BK305;clear HB;have HO_34:=n0_;have HO_306000:=n1_;have HO_306001:=n2_;have HO323:=n3_;have BK304:=n4_;have BK305:=n5_;have HB:=n6_;clear n0_ n1_ n2_ n3_ n4_ n5_ n6_;obtain ⟨Ao91,co91,eo91⟩:=Kd.R_slice HO323.out
                      (first|subst eo91|(injection eo91 with f1_ f2_ f3_;have f4_:=f1_.symm;have f5_:=f3_.symm;clear f1_ f2_ f3_;subst f4_;subst f5_))
                      have p335 : 0 ≤ (0 : Int):=(by omega)
                      have q335 : 0 < (t319.length : Int):=of_decide_eq_true (by first|(with_reducible assumption)|assumption);obtain ⟨ad335,e335,hx335_0⟩:=Kd.at_int (Kd.R_reads' HO323.out).2.2 0 p335 q335;cases e335;have qi335 : (0 < t319.length) = True:=eq_true (by omega)
                      (try rw [show ((0 : Int)).toNat = 0 from rfl] at hx335_0)
                      (try rw [Addr.add_zero'] at hx335_0)
                      replace p335:=eq_true p335;replace q335:=eq_true q335
                      have p336 : 0 ≤ (1 : Int):=(by omega)
                      have q336 : 1 < (t319.length : Int):=of_decide_eq_true (by first|(with_reducible assumption)|assumption);obtain ⟨ad336,e336,hx336_0⟩:=Kd.at_int (Kd.R_reads' HO323.out).2.2 1 p336 q336
                      obtain rfl : ad335 = ad336:=(by injection e336)
                      (try simp only [show (1 : Int).toNat = 1 from rfl,Nat.reduceMul,Nat.reduceEqDiff,Go.Addr.add,↓reduceIte] at hx336_0)
                      have qi336 : (1 < t319.length) = True:=eq_true (by omega)
                      (try rw [show ((1 : Int)).toNat = 1 from rfl] at hx336_0)
                      replace p336:=eq_true p336;replace q336:=eq_true q336
                      have p337 : 0 ≤ (2 : Int):=(by omega)
                      have q337 : 2 < (t319.length : Int):=of_decide_eq_true (by first|(with_reducible assumption)|assumption);obtain ⟨ad337,e337,hx337_0⟩:=Kd.at_int (Kd.R_reads' HO323.out).2.2 2 p337 q337
                      obtain rfl : ad335 = ad337:=(by injection e337)
                      (try simp only [show (2 : Int).toNat = 2 from rfl,Nat.reduceMul,Nat.reduceEqDiff,Go.Addr.add,↓reduceIte] at hx337_0)
                      have qi337 : (2 < t319.length) = True:=eq_true (by omega)
                      (try rw [show ((2 : Int)).toNat = 2 from rfl] at hx337_0)
                      replace p337:=eq_true p337;replace q337:=eq_true q337;refine start_ (n:=15) (S:=fun w' => w'.cell? ad335 = some (.int .i64 (rd t319 0))∧w'.cell? ⟨ad335.block,ad335.off + 1,none⟩ = some (.int .i64 (rd t319 1))∧w'.cell? ⟨ad335.block,ad335.off + 2,none⟩ = some (.int .i64 (rd t319 2))) (ds:=[]) #[false,false,false,false,false,false,false,false,false,false,false,false,false,false,false] (by kernel_rfl) rfl rfl ⟨hx335_0,hx336_0,hx337_0⟩ (fun hHeld => ?_);refine with_tabW impl_ReadProfile.tab21 impl_ReadProfile.bits21 (fun HT_ HW_ => ?_);generalize w89.drew = w90 at HO_34 HO_306000 HO_306001 HO323 BK304 BK305 HB hx335_0 hx336_0 hx337_0 hHeld ⊢;refine pure_ (i:=0) (N:=some 70) (v:=?_) (a':=?_) #[true,false,false,false,false,false,false,false,false,false,false,false,false,false,false] rfl rfl (any_of HT_.out (by kernel_rfl)) (fun _ _ _ h => h) (Or.inl ⟨by rfl,?_⟩) ?_ ?_;rotate_left
                      ·intro w'
                       go_simp
                       with_reducible rfl
                      rotate_left
                      ·simp only [Act.put,pS]
                       rfl
                      refine pure_ (i:=1) (N:=some 71) (v:=?_) (a':=?_) #[true,true,false,false,false,false,false,false,false,false,false,false,false,false,false] rfl rfl (any_of HT_.out (by kernel_rfl)) (fun _ _ _ h => h) (Or.inl ⟨by rfl,?_⟩) ?_ ?_;rotate_left
                      ·intro w'
                       go_simp
                       with_reducible rfl
                      rotate_left
                      ·simp only [Act.put,pS]
                       rfl
                      refine pure_ (i:=3) (N:=some 73) (v:=?_) (a':=?_) #[true,true,false,true,false,false,false,false,false,false,false,false,false,false,false] rfl rfl (any_of HT_.out (by kernel_rfl)) (fun _ _ _ h => h) (Or.inl ⟨by rfl,?_⟩) ?_ ?_;rotate_left
                      ·intro w'
                       go_simp
                       with_reducible rfl
                      rotate_left
                      ·simp only [Act.put,pS]
                       rfl
                      refine pure_ (i:=4) (N:=some 74) (v:=?_) (a':=?_) #[true,true,false,true,true,false,false,false,false,false,false,false,false,false,false] rfl rfl (any_of HT_.out (by kernel_rfl)) (fun _ _ _ h => h) (Or.inl ⟨by rfl,?_⟩) ?_ ?_;rotate_left
                      ·intro w'
                       go_simp
                       with_reducible rfl
                      rotate_left
                      ·simp only [Act.put,pS]
                       rfl
                      refine pure_ (i:=6) (N:=some 76) (v:=?_) (a':=?_) #[true,true,false,true,true,false,true,false,false,false,false,false,false,false,false] rfl rfl (any_of HT_.out (by kernel_rfl)) (fun _ _ _ h => h) (Or.inl ⟨by rfl,?_⟩) ?_ ?_;rotate_left
                      ·intro w'
                       go_simp
                       with_reducible rfl
                      rotate_left
                      ·simp only [Act.put,pS]
                       rfl
                      refine pure_ (i:=7) (N:=some 77) (v:=?_) (a':=?_) #[true,true,false,true,true,false,true,true,false,false,false,false,false,false,false] rfl rfl (any_of HT_.out (by kernel_rfl)) (fun _ _ _ h => h) (Or.inl ⟨by rfl,?_⟩) ?_ ?_;rotate_left
                      ·intro w'
                       go_simp
                       with_reducible rfl
                      rotate_left
                      ·simp only [Act.put,pS]
                       rfl
                      refine take_ (i:=2) (N:=some 72) (v:=?_) (a':=?_) #[true,true,true,true,true,false,true,true,false,false,false,false,false,false,false] rfl rfl (take_ofW HT_.out HW_.out (by kernel_rfl)) (fun _ _ _ h => h) (Or.inl ⟨by rfl,?_⟩) hHeld ?_ ?_;rotate_left
                      ·rintro w' ⟨s0,s1,s2⟩
                       go_simp
                       with_reducible rfl
                      rotate_left
                      ·simp only [Act.put,pS]
                       rfl
                      refine pure_ (i:=9) (N:=some 79) (v:=?_) (a':=?_) #[true,true,true,true,true,false,true,true,false,true,false,false,false,false,false] rfl rfl (any_of HT_.out (by kernel_rfl)) (fun _ _ _ h => h) (Or.inl ⟨by rfl,?_⟩) ?_ ?_;rotate_left
                      ·intro w'
                       go_simp
                       with_reducible rfl
                      rotate_left
                      ·simp only [Act.put,pS]
                       rfl
                      refine take_ (i:=5) (N:=some 75) (v:=?_) (a':=?_) #[true,true,true,true,true,true,true,true,false,true,false,false,false,false,false] rfl rfl (take_ofW HT_.out HW_.out (by kernel_rfl)) (fun _ _ _ h => h) (Or.inl ⟨by rfl,?_⟩) hHeld ?_ ?_;rotate_left
                      ·rintro w' ⟨s0,s1,s2⟩
                       go_simp
                       with_reducible rfl
                      rotate_left
                      ·simp only [Act.put,pS]
                       rfl
                      refine take_ (i:=8) (N:=some 78) (v:=?_) (a':=?_) #[true,true,true,true,true,true,true,true,true,true,false,false,false,false,false] rfl rfl (take_ofW HT_.out HW_.out (by kernel_rfl)) (fun _ _ _ h => h) (Or.inl ⟨by rfl,?_⟩) hHeld ?_ ?_;rotate_left
                      ·rintro w' ⟨s0,s1,s2⟩
                       go_simp
                       with_reducible rfl
                      rotate_left
                      ·simp only [Act.put,pS]
                       rfl
                      refine one_ (i:=10) (N:=none) #[true,true,true,true,true,true,true,true,true,true,true,false,false,false,false] rfl rfl (one_of HT_.out (by kernel_rfl)) (by decide) (fun K hK => ?_);have hs92:=cC_ BK305 2 rfl;have hfs92:=kF BK305.out 2;have hns92_0:=NB304_305.out;have hms92_0:=NB305_304.out;refine skip_ (w1:=?_) (by rfl) rfl ?_ ?_;rotate_left
                      ·go_simp
                       rfl
                      have hq7_:=Kd.own_blk (Kd.R_ne HO323.out BK305.out (by decide));refine hK.out _ _ ⟨((cell_far (p:=⟨gb305,_,none⟩) (by first|exact hq7_|(dsimp only;exact hq7_)) _).trans (hHeld.1)),((cell_far (p:=⟨gb305,_,none⟩) (by first|exact hq7_|(dsimp only;exact hq7_)) _).trans (hHeld.2.1)),((cell_far (p:=⟨gb305,_,none⟩) (by first|exact hq7_|(dsimp only;exact hq7_)) _).trans (hHeld.2.2))⟩ (fun hHeld => ?_);clear hq7_;clear hK K;refine pure_ (i:=11) (N:=some 80) (v:=?_) (a':=?_) #[true,true,true,true,true,true,true,true,true,true,true,true,false,false,false] rfl rfl (any_of HT_.out (by kernel_rfl)) (fun _ _ _ h => h) (Or.inl ⟨by rfl,?_⟩) ?_ ?_;rotate_left
                      ·intro w'
                       go_simp
                       with_reducible rfl
                      rotate_left
                      ·simp only [Act.put,pS]
                       rfl
                      refine one_ (i:=12) (N:=none) #[true,true,true,true,true,true,true,true,true,true,true,true,true,false,false] rfl rfl (one_of HT_.out (by kernel_rfl)) (by decide) (fun K hK => ?_);have hs93:=cC_ BK305 3 rfl;have hfs93:=kF BK305.out 3;have hns93_0:=NB304_305.out;have hms93_0:=NB305_304.out;refine skip_ (w1:=?_) (by rfl) rfl ?_ ?_;rotate_left
                      ·go_simp
                       rfl
                      have hq8_:=Kd.own_blk (Kd.R_ne HO323.out BK305.out (by decide));refine hK.out _ _ ⟨((cell_far (p:=⟨gb305,_,none⟩) (by first|exact hq8_|(dsimp only;exact hq8_)) _).trans (hHeld.1)),((cell_far (p:=⟨gb305,_,none⟩) (by first|exact hq8_|(dsimp only;exact hq8_)) _).trans (hHeld.2.1)),((cell_far (p:=⟨gb305,_,none⟩) (by first|exact hq8_|(dsimp only;exact hq8_)) _).trans (hHeld.2.2))⟩ (fun hHeld => ?_);clear hq8_;clear hK K;refine pure_ (i:=13) (N:=some 81) (v:=?_) (a':=?_) #[true,true,true,true,true,true,true,true,true,true,true,true,true,true,false] rfl rfl (any_of HT_.out (by kernel_rfl)) (fun _ _ _ h => h) (Or.inl ⟨by rfl,?_⟩) ?_ ?_;rotate_left
                      ·intro w'
                       go_simp
                       with_reducible rfl
                      rotate_left
                      ·simp only [Act.put,pS]
                       rfl
                      refine one_ (i:=14) (N:=none) #[true,true,true,true,true,true,true,true,true,true,true,true,true,true,true] rfl rfl (one_of HT_.out (by kernel_rfl)) (by decide) (fun K hK => ?_);have hs94:=cC_ BK305 4 rfl;have hfs94:=kF BK305.out 4;have hns94_0:=NB304_305.out;have hms94_0:=NB305_304.out;refine skip_ (w1:=?_) (by rfl) rfl ?_ ?_;rotate_left
                      ·go_simp
                       rfl
                      have hq9_:=Kd.own_blk (Kd.R_ne HO323.out BK305.out (by decide));refine hK.out _ _ ⟨((cell_far (p:=⟨gb305,_,none⟩) (by first|exact hq9_|(dsimp only;exact hq9_)) _).trans (hHeld.1)),((cell_far (p:=⟨gb305,_,none⟩) (by first|exact hq9_|(dsimp only;exact hq9_)) _).trans (hHeld.2.1)),((cell_far (p:=⟨gb305,_,none⟩) (by first|exact hq9_|(dsimp only;exact hq9_)) _).trans (hHeld.2.2))⟩ (fun hHeld => ?_);clear hq9_;clear hK K;refine done_ (done_of HT_.out (by kernel_rfl)) ?_;have hnb95:=NB305_304.out;have hnc95:=NB304_305.out;have hcz96_0:=cC_ BK305 0 rfl;have hcz96_1:=cC_ BK305 1 rfl;have hcz96_2:=cC_ BK305 2 rfl;have hcz96_3:=cC_ BK305 3 rfl;have hcz96_4:=cC_ BK305 4 rfl;have hfz96_0:=kF BK305.out 0;have hfz96_1:=kF BK305.out 1;have hfz96_2:=kF BK305.out 2;have hfz96_3:=kF BK305.out 3;have hfz96_4:=kF BK305.out 4;obtain ⟨Ao97,co97,eo97⟩:=Kd.R_slice HO_306000.out;subst eo97;obtain ⟨Ao98,co98,eo98⟩:=Kd.R_slice HO_306001.out;subst eo98
                      try go_wp2_with (first|((with_reducible refine gate_callee (f:=15) rfl ?_);refine goesL_ (some 89) rfl rfl Tryd.func15 (by kernel_rfl) rfl #[.agg #[.slice Ao97 x306000_3.length co97,.slice Ao98 x306001_3.length co98,.int .i64 (rd t319 0),.int .i64 (rd t319 1),.int .i64 (rd t319 2)]] rfl lA ?_;(with_reducible refine (impl_ProfileOk.calls _ _ x306000_3 _ _ x306001_3 (rd t319 0) (rd t319 1) (rd t319 2) t338 _ ?side1 ?side2 ?side3 ?side4 A74.out).mono ?_);(case side1 => refine (Kd.R_reads' (e:=49) (base:=w.heap.size) (ok:=fun k_ => True) (n:=x306000_3.length) (c:=co97) ?_).2.2;exact (by (with_reducible repeat (first|apply Kd.R_alloc|apply Kd.R_drewN|apply Kd.R_drew));exact (Kd.R_mono (Kd.R_far (p:=⟨gb305,4,none⟩) (Kd.R_far (p:=⟨gb305,3,none⟩) (Kd.R_far (p:=⟨gb305,2,none⟩) (Kd.R_types HO_306000.out BK305.out (by decide)) (fun _ hk => hk.2) (.int .i64 (rd t319 0))) (fun _ hk => hk.2) (.int .i64 (rd t319 1))) (fun _ hk => hk.2) (.int .i64 (rd t319 2))) (fun _ h_ => h_.1))));(case side2 => exact (Kd.R_reads' HO_306000.out).2.1);(case side3 => refine (Kd.R_reads' (e:=56) (base:=w.heap.size) (ok:=fun k_ => True) (n:=x306001_3.length) (c:=co98) ?_).2.2;exact (by (with_reducible repeat (first|apply Kd.R_alloc|apply Kd.R_drewN|apply Kd.R_drew));exact (Kd.R_mono (Kd.R_far (p:=⟨gb305,4,none⟩) (Kd.R_far (p:=⟨gb305,3,none⟩) (Kd.R_far (p:=⟨gb305,2,none⟩) (Kd.R_types HO_306001.out BK305.out (by decide)) (fun _ hk => hk.2) (.int .i64 (rd t319 0))) (fun _ hk => hk.2) (.int .i64 (rd t319 1))) (fun _ hk => hk.2) (.int .i64 (rd t319 2))) (fun _ h_ => h_.1))));(case side4 => exact (Kd.R_reads' HO_306001.out).2.1);rintro e w99 ⟨rfl,hb⟩;refine ⟨_,rfl,?_⟩;have n0_:=Am (Kd.R_below (by (with_reducible repeat (first|apply Kd.R_alloc|apply Kd.R_drewN|apply Kd.R_drew));exact (Kd.R_mono (Kd.R_far (p:=⟨gb305,4,none⟩) (Kd.R_far (p:=⟨gb305,3,none⟩) (Kd.R_far (p:=⟨gb305,2,none⟩) (Kd.R_types HO_34.out BK305.out (by decide)) (fun _ hk => hk.2) (.int .i64 (rd t319 0))) (fun _ hk => hk.2) (.int .i64 (rd t319 1))) (fun _ hk => hk.2) (.int .i64 (rd t319 2))) (fun _ h_ => h_.1))) hb);have n1_:=Am (Kd.R_below (by (with_reducible repeat (first|apply Kd.R_alloc|apply Kd.R_drewN|apply Kd.R_drew));exact (Kd.R_mono (Kd.R_far (p:=⟨gb305,4,none⟩) (Kd.R_far (p:=⟨gb305,3,none⟩) (Kd.R_far (p:=⟨gb305,2,none⟩) (Kd.R_types HO_306000.out BK305.out (by decide)) (fun _ hk => hk.2) (.int .i64 (rd t319 0))) (fun _ hk => hk.2) (.int .i64 (rd t319 1))) (fun _ hk => hk.2) (.int .i64 (rd t319 2))) (fun _ h_ => h_.1))) hb);have n2_:=Am (Kd.R_below (by (with_reducible repeat (first|apply Kd.R_alloc|apply Kd.R_drewN|apply Kd.R_drew));exact (Kd.R_mono (Kd.R_far (p:=⟨gb305,4,none⟩) (Kd.R_far (p:=⟨gb305,3,none⟩) (Kd.R_far (p:=⟨gb305,2,none⟩) (Kd.R_types HO_306001.out BK305.out (by decide)) (fun _ hk => hk.2) (.int .i64 (rd t319 0))) (fun _ hk => hk.2) (.int .i64 (rd t319 1))) (fun _ hk => hk.2) (.int .i64 (rd t319 2))) (fun _ h_ => h_.1))) hb);have n3_:=Am (Kd.R_below (by (with_reducible repeat (first|apply Kd.R_alloc|apply Kd.R_drewN|apply Kd.R_drew));exact (Kd.R_mono (Kd.R_far (p:=⟨gb305,4,none⟩) (Kd.R_far (p:=⟨gb305,3,none⟩) (Kd.R_far (p:=⟨gb305,2,none⟩) (Kd.R_types HO323.out BK305.out (by decide)) (fun _ hk => hk.2) (.int .i64 (rd t319 0))) (fun _ hk => hk.2) (.int .i64 (rd t319 1))) (fun _ hk => hk.2) (.int .i64 (rd t319 2))) (fun _ h_ => h_.1))) hb);have n4_:=Am (blk_below (g:=gb304) (o:=.cells #[.int .i64 x305000_3,.int .i64 x305001_3,.slice none 0 0,.slice none 0 0,.int .i64 x305004_3,.int .i64 x305005_3,.int .i64 x305006_3] 32 (0,0)) (by (with_reducible repeat (first|refine kN ?_ _|refine kD ?_|refine kA ?_ _));refine blk_far ?_ NB304_305.out _;(with_reducible repeat (first|refine kN ?_ _|refine kD ?_|refine kA ?_ _));refine blk_far ?_ NB304_305.out _;(with_reducible repeat (first|refine kN ?_ _|refine kD ?_|refine kA ?_ _));refine blk_far ?_ NB304_305.out _;(with_reducible repeat (first|refine kN ?_ _|refine kD ?_|refine kA ?_ _));exact BK304.out) hb);have n5_:=Am (blk_below (g:=gb305) (o:=.cells #[.slice Ao97 x306000_3.length co97,.slice Ao98 x306001_3.length co98,.int .i64 (rd t319 0),.int .i64 (rd t319 1),.int .i64 (rd t319 2)] 26 (0,0)) (by (with_reducible repeat (first|refine kN ?_ _|refine kD ?_|refine kA ?_ _));refine blk_put (cs:=#[.slice Ao97 x306000_3.length co97,.slice Ao98 x306001_3.length co98,.int .i64 (rd t319 0),.int .i64 (rd t319 1),.int .i64 x306004_3]) ?_ 4 _ rfl;(with_reducible repeat (first|refine kN ?_ _|refine kD ?_|refine kA ?_ _));refine blk_put (cs:=#[.slice Ao97 x306000_3.length co97,.slice Ao98 x306001_3.length co98,.int .i64 (rd t319 0),.int .i64 x306003_3,.int .i64 x306004_3]) ?_ 3 _ rfl;(with_reducible repeat (first|refine kN ?_ _|refine kD ?_|refine kA ?_ _));refine blk_put (cs:=#[.slice Ao97 x306000_3.length co97,.slice Ao98 x306001_3.length co98,.int .i64 x306002_3,.int .i64 x306003_3,.int .i64 x306004_3]) ?_ 2 _ rfl;(with_reducible repeat (first|refine kN ?_ _|refine kD ?_|refine kA ?_ _));exact BK305.out) hb);have n6_:=Am (below_step (bL HB) hb);clear HO_34;clear HO_306000;clear HO_306001;clear HO323;clear BK304;clear BK305;clear HB;have HO_34:=n0_;have HO_306000:=n1_;have HO_306001:=n2_;have HO323:=n3_;have BK304:=n4_;have BK305:=n5_;have HB:=n6_;clear n0_ n1_ n2_ n3_ n4_ n5_ n6_;(try clear hb);(try clear hb2);(try clear hk);(try clear hi);have hcz100_0:=cC_ BK304 0 rfl;have hcz100_1:=cC_ BK304 1 rfl;have hcz100_2:=cC_ BK304 2 rfl;have hcz100_3:=cC_ BK304 3 rfl;have hcz100_4:=cC_ BK304 4 rfl;have hcz100_5:=cC_ BK304 5 rfl;have hcz100_6:=cC_ BK304 6 rfl;have hfz100_0:=kF BK304.out 0;have hfz100_1:=kF BK304.out 1;have hfz100_2:=kF BK304.out 2;have hfz100_3:=kF BK304.out 3;have hfz100_4:=kF BK304.out 4;have hfz100_5:=kF BK304.out 5;have hfz100_6:=kF BK304.out 6))
                      refine bodyPost_ret (results_cell_row rfl _ _ gb304 32 #[.int .i64 (wrap64 (1 + t338)),.int .i64 0,.slice none 0 0,.slice none 0 0,.int .i64 0,.int .i64 0,.int .i64 0] (0,0) _ rfl (by (with_reducible repeat (first|refine kN ?_ _|refine kD ?_|refine kA ?_ _));refine blk_put (cs:=#[.int .i64 (wrap64 (1 + t338)),.int .i64 0,.slice none 0 0,.slice none 0 0,.int .i64 0,.int .i64 0,.int .i64 x305006_3]) ?_ 6 _ rfl;(with_reducible repeat (first|refine kN ?_ _|refine kD ?_|refine kA ?_ _));refine blk_put (cs:=#[.int .i64 (wrap64 (1 + t338)),.int .i64 0,.slice none 0 0,.slice none 0 0,.int .i64 0,.int .i64 x305005_3,.int .i64 x305006_3]) ?_ 5 _ rfl;(with_reducible repeat (first|refine kN ?_ _|refine kD ?_|refine kA ?_ _));refine blk_put (cs:=#[.int .i64 (wrap64 (1 + t338)),.int .i64 0,.slice none 0 0,.slice none 0 0,.int .i64 x305004_3,.int .i64 x305005_3,.int .i64 x305006_3]) ?_ 4 _ rfl;(with_reducible repeat (first|refine kN ?_ _|refine kD ?_|refine kA ?_ _));refine blk_put (cs:=#[.int .i64 (wrap64 (1 + t338)),.int .i64 0,.slice none 0 0,.slice none 0 0,.int .i64 x305004_3,.int .i64 x305005_3,.int .i64 x305006_3]) ?_ 3 _ rfl;(with_reducible repeat (first|refine kN ?_ _|refine kD ?_|refine kA ?_ _));refine blk_put (cs:=#[.int .i64 (wrap64 (1 + t338)),.int .i64 0,.slice none 0 0,.slice none 0 0,.int .i64 x305004_3,.int .i64 x305005_3,.int .i64 x305006_3]) ?_ 2 _ rfl;(with_reducible repeat (first|refine kN ?_ _|refine kD ?_|refine kA ?_ _));refine blk_put (cs:=#[.int .i64 (wrap64 (1 + t338)),.int .i64 x305001_3,.slice none 0 0,.slice none 0 0,.int .i64 x305004_3,.int .i64 x305005_3,.int .i64 x305006_3]) ?_ 1 _ rfl;(with_reducible repeat (first|refine kN ?_ _|refine kD ?_|refine kA ?_ _));refine blk_put (cs:=#[.int .i64 x305000_3,.int .i64 x305001_3,.slice none 0 0,.slice none 0 0,.int .i64 x305004_3,.int .i64 x305005_3,.int .i64 x305006_3]) ?_ 0 _ rfl;(with_reducible repeat (first|refine kN ?_ _|refine kD ?_|refine kA ?_ _));exact BK304.out) Tryd.underlying32 rfl (by kernel_rfl)) rfl ?_;exact ⟨_,_,by first|rfl|(simp [errW_none,errW_some] <;> rfl)|(simp only [← hji35];first|rfl|(simp [errW_none,errW_some] <;> rfl))|(simp [*,errW_none,errW_some] <;> rfl),by first|exact Kd.R_nil _ _ _ _ _|exact Kd.N_nil _ _ _ _ _|exact Kd.V_nil _ _ _ _ _|exact Kd.Q_nil _ _ _ _ _|exact Kd.S_nil _ _ _ _ _,by first|exact Kd.R_nil _ _ _ _ _|exact Kd.N_nil _ _ _ _ _|exact Kd.V_nil _ _ _ _ _|exact Kd.Q_nil _ _ _ _ _|exact Kd.S_nil _ _ _ _ _,bL HB⟩
                   ·rw [if_neg c64] at H;exact absurd H (by simp)
                  ·rw [if_neg c63] at H;exact absurd H (by simp)
                 ·rw [if_neg c62] at H;exact absurd H (by simp)
               ·rw [if_neg c50] at H;exact absurd H (by simp)
             ·rw [if_neg c38] at H;exact absurd H (by simp)
            ·rw [if_neg c37] at H;exact absurd H (by simp)
           ·replace c36:=Bool.eq_false_iff.mpr c36;subst c36
            rw [if_neg (show ¬ (false = true) by decide)] at H;have H':=Am H;clear H;have p318 : 0 ≤ (x36_3 : Int):=of_decide_eq_true (by first|(with_reducible assumption)|assumption);have q318 : x36_3 < (x5_6.length : Int):=of_decide_eq_true (by first|(with_reducible assumption)|assumption);obtain ⟨ad318,e318,hx318_0⟩:=Kd.at_string (Kd.R_reads' HO_34.out).2.2 x36_3 p318 q318;cases e318;replace p318:=eq_true p318;replace q318:=eq_true q318
            go_wp2_with (first|((with_reducible refine gate_callee (f:=22) rfl ?_);refine goesL_ (some 44) rfl rfl Tryd.func22 (by kernel_rfl) rfl #[.string a0,.int .i64 x4_1,.string (rdOf ByteArray.empty x5_6 x36_3)] rfl lA ?_;(with_reducible refine (impl_match.calls k3 a0 x4_1 (rdOf ByteArray.empty x5_6 x36_3) t319 t320 false _ A34.out).mono ?_);rintro e w101 ⟨v322,rfl,ho0,hb⟩;refine ⟨_,rfl,?_⟩;have n0_:=Am (Kd.R_below (rL HO_34) hb);have n1_:=Am (Kd.R_below (rL HO_306000) hb);have n2_:=Am (Kd.R_below (rL HO_306001) hb);have n3_:=Am (Kd.R_lower ho0 (below_size (bL HB)));have n4_:=Am (blk_below (g:=gb304) (o:=.cells #[.int .i64 x305000_3,.int .i64 x305001_3,.slice none 0 0,.slice none 0 0,.int .i64 x305004_3,.int .i64 x305005_3,.int .i64 x305006_3] 32 (0,0)) (kL BK304) hb);have n5_:=Am (blk_below (g:=gb305) (o:=.cells #[u306000,u306001,.int .i64 x306002_3,.int .i64 x306003_3,.int .i64 x306004_3] 26 (0,0)) (kL BK305) hb);have n6_:=Am (below_step (bL HB) hb);clear HO_34;clear HO_306000;clear HO_306001;clear BK304;clear BK305;clear HB;have HO_34:=n0_;have HO_306000:=n1_;have HO_306001:=n2_;have HO323:=n3_;have BK304:=n4_;have BK305:=n5_;have HB:=n6_;clear n0_ n1_ n2_ n3_ n4_ n5_ n6_;(try clear hb);(try clear hb2);(try clear hk);(try clear hi);(try clear ho0)))
            go_roundg k3
            case measure => have:=HK1.out;have:=HJ6.out;have:=HK3.out;omega
            case rel => exact ⟨(ji35),(x7_3),(wrap64 (x36_3 + 1)),(x305000_3),(x305001_3),(x305004_3),(x305005_3),(x305006_3),(x306000_3),(x306001_3),(x306002_3),(x306003_3),(x306004_3),(u306000),(u306001),(by first|rfl|(simp;done)|(simp only [← hji35] <;> (first|rfl|simp))|(simp [*];done)),vL_,vL_,H',⟨by have:=HK1.out;have:=HJ6.out;have:=HK3.out;omega⟩,⟨by (with_reducible repeat (first|apply Kd.R_alloc|apply Kd.R_drewN|apply Kd.R_drew));exact HO_34.out⟩,⟨by (with_reducible repeat (first|apply Kd.R_alloc|apply Kd.R_drewN|apply Kd.R_drew));exact HO_306000.out⟩,⟨by (with_reducible repeat (first|apply Kd.R_alloc|apply Kd.R_drewN|apply Kd.R_drew));exact HO_306001.out⟩,⟨kL BK304⟩,⟨kL BK305⟩,⟨bL HB⟩⟩
          ·rw [if_neg c33] at H;exact absurd H (by simp)
         ·rw [if_neg c32] at H;exact absurd H (by simp)
        ·rw [if_neg c31] at H;have c31b0 : decide (x36_3 < (x5_6.length : Int)) = false:=decide_eq_false c31;clear c31
         by_cases c102 : x7_3 = true
         ·subst c102
          rw [if_pos rfl] at H;have H':=Am H;clear H;go_wp2
          go_roundg k3
          case measure => have:=HK1.out;have:=HJ6.out;have:=HK3.out;omega
          case rel => exact ⟨(x6_3),(x305000_3),(x305001_3),(x305004_3),(x305005_3),(x305006_3),(x306000_3),(x306001_3),(x306002_3),(x306003_3),(x306004_3),(u306000),(u306001),vL_,H',⟨by have:=HK1.out;have:=HJ6.out;have:=HK3.out;omega⟩,⟨by (with_reducible repeat (first|apply Kd.R_alloc|apply Kd.R_drewN|apply Kd.R_drew));exact HO_306000.out⟩,⟨by (with_reducible repeat (first|apply Kd.R_alloc|apply Kd.R_drewN|apply Kd.R_drew));exact HO_306001.out⟩,⟨kL BK304⟩,⟨kL BK305⟩,⟨bL HB⟩⟩
         ·replace c102:=Bool.eq_false_iff.mpr c102;subst c102
          rw [if_neg (show ¬ (false = true) by decide)] at H;simp only [Option.some.injEq,Prod.mk.injEq] at H;obtain ⟨rfl,rfl,rfl,rfl,rfl,rfl,rfl⟩:=H;have hnb103:=NB304_305.out;have hnc103:=NB305_304.out;have hcz104_0:=cC_ BK304 0 rfl;have hcz104_1:=cC_ BK304 1 rfl;have hcz104_2:=cC_ BK304 2 rfl;have hcz104_3:=cC_ BK304 3 rfl;have hcz104_4:=cC_ BK304 4 rfl;have hcz104_5:=cC_ BK304 5 rfl;have hcz104_6:=cC_ BK304 6 rfl;have hfz104_0:=kF BK304.out 0;have hfz104_1:=kF BK304.out 1;have hfz104_2:=kF BK304.out 2;have hfz104_3:=kF BK304.out 3;have hfz104_4:=kF BK304.out 4;have hfz104_5:=kF BK304.out 5;have hfz104_6:=kF BK304.out 6;go_wp2;refine bodyPost_ret (results_cell_row rfl _ _ gb304 32 #[.int .i64 1,.int .i64 x6_3,.slice none 0 0,.slice none 0 0,.int .i64 0,.int .i64 0,.int .i64 0] (0,0) _ rfl (by (with_reducible repeat (first|refine kN ?_ _|refine kD ?_|refine kA ?_ _));refine blk_put (cs:=#[.int .i64 1,.int .i64 x6_3,.slice none 0 0,.slice none 0 0,.int .i64 0,.int .i64 0,.int .i64 x305006_3]) ?_ 6 _ rfl;(with_reducible repeat (first|refine kN ?_ _|refine kD ?_|refine kA ?_ _));refine blk_put (cs:=#[.int .i64 1,.int .i64 x6_3,.slice none 0 0,.slice none 0 0,.int .i64 0,.int .i64 x305005_3,.int .i64 x305006_3]) ?_ 5 _ rfl;(with_reducible repeat (first|refine kN ?_ _|refine kD ?_|refine kA ?_ _));refine blk_put (cs:=#[.int .i64 1,.int .i64 x6_3,.slice none 0 0,.slice none 0 0,.int .i64 x305004_3,.int .i64 x305005_3,.int .i64 x305006_3]) ?_ 4 _ rfl;(with_reducible repeat (first|refine kN ?_ _|refine kD ?_|refine kA ?_ _));refine blk_put (cs:=#[.int .i64 1,.int .i64 x6_3,.slice none 0 0,.slice none 0 0,.int .i64 x305004_3,.int .i64 x305005_3,.int .i64 x305006_3]) ?_ 3 _ rfl;(with_reducible repeat (first|refine kN ?_ _|refine kD ?_|refine kA ?_ _));refine blk_put (cs:=#[.int .i64 1,.int .i64 x6_3,.slice none 0 0,.slice none 0 0,.int .i64 x305004_3,.int .i64 x305005_3,.int .i64 x305006_3]) ?_ 2 _ rfl;(with_reducible repeat (first|refine kN ?_ _|refine kD ?_|refine kA ?_ _));refine blk_put (cs:=#[.int .i64 1,.int .i64 x305001_3,.slice none 0 0,.slice none 0 0,.int .i64 x305004_3,.int .i64 x305005_3,.int .i64 x305006_3]) ?_ 1 _ rfl;(with_reducible repeat (first|refine kN ?_ _|refine kD ?_|refine kA ?_ _));refine blk_put (cs:=#[.int .i64 x305000_3,.int .i64 x305001_3,.slice none 0 0,.slice none 0 0,.int .i64 x305004_3,.int .i64 x305005_3,.int .i64 x305006_3]) ?_ 0 _ rfl;(with_reducible repeat (first|refine kN ?_ _|refine kD ?_|refine kA ?_ _));exact BK304.out) Tryd.underlying32 rfl (by kernel_rfl)) rfl ?_;exact ⟨_,_,eL_,by first|exact Kd.R_nil _ _ _ _ _|exact Kd.N_nil _ _ _ _ _|exact Kd.V_nil _ _ _ _ _|exact Kd.Q_nil _ _ _ _ _|exact Kd.S_nil _ _ _ _ _,by first|exact Kd.R_nil _ _ _ _ _|exact Kd.N_nil _ _ _ _ _|exact Kd.V_nil _ _ _ _ _|exact Kd.Q_nil _ _ _ _ _|exact Kd.S_nil _ _ _ _ _,bL HB⟩

end Go.Proofs.YtanjbdgmnecacaaDoor.PT
