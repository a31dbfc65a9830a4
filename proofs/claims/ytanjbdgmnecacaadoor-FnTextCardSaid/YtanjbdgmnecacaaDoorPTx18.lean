-- Written by a program of this session (wip/print/myprint.py) over the kit's print, with contracts of its own; not a text of print.sh's.
import Derived.Test.YtanjbdgmnecacaaDoorPTx0
import Derived.Test.YtanjbdgmnecacaaDoorPTx16
import Derived.Test.YtanjbdgmnecacaaDoorPTx17
namespace Go.Proofs.YtanjbdgmnecacaaDoor.PT
open Go.RowKit Go.Proofs.YtanjbdgmnecacaaDoorW.PrintWords Go.Proofs.YtanjbdgmnecacaaDoorW.PrintLast Go.Proofs.YtanjbdgmnecacaaDoorW.PrintMore
attribute [local go_sem] max2_int min2_int max_two min_two   -- for this text's walks alone
set_option linter.unusedVariables false
set_option linter.unusedSimpArgs false

/-! ### spec_WriteProfile: function 6 -/
mutual
def spec_WriteProfile.l0 : Nat → ByteArray → List (S49) → Int → Int → List (S49) → List (S56) → Int → Int → Int → Option (ByteArray)
 | 0,_,_,_,_,_,_,_,_,_ => none
 | k + 1,x3,x12,x13,x14,x276000,x276001,x276002,x276003,x276004 => if x14 < x13 then (if 0 ≤ x14 then (if x14 < (x12.length : Int) then ((spec_l5decimal.f k ((rd_T49 x12 x14).f0)).bind fun t279 => (if 6 + t279.size ≤ 9223372036854775807 then (if ((⟨#[116,114,97,99,107,32]⟩ : ByteArray) ++ t279).size + 7 ≤ 9223372036854775807 then ((spec_l5decimal.f k ((rd_T49 x12 x14).f1)).bind fun t280 => (if (((⟨#[116,114,97,99,107,32]⟩ : ByteArray) ++ t279) ++ (⟨#[32,98,114,97,107,101,32]⟩ : ByteArray)).size + t280.size ≤ 9223372036854775807 then (if ((((⟨#[116,114,97,99,107,32]⟩ : ByteArray) ++ t279) ++ (⟨#[32,98,114,97,107,101,32]⟩ : ByteArray)) ++ t280).size + 1 ≤ 9223372036854775807 then (if x3.size + (((((⟨#[116,114,97,99,107,32]⟩ : ByteArray) ++ t279) ++ (⟨#[32,98,114,97,107,101,32]⟩ : ByteArray)) ++ t280) ++ (⟨#[10]⟩ : ByteArray)).size ≤ 9223372036854775807 then (spec_WriteProfile.l0 k (x3 ++ (((((⟨#[116,114,97,99,107,32]⟩ : ByteArray) ++ t279) ++ (⟨#[32,98,114,97,107,101,32]⟩ : ByteArray)) ++ t280) ++ (⟨#[10]⟩ : ByteArray))) x12 x13 (wrap64 (x14 + 1)) x276000 x276001 x276002 x276003 x276004) else (none)) else (none)) else (none))) else (none)) else (none))) else (none)) else (none)) else (spec_WriteProfile.l1 k x3 x276001 (x276001.length : Int) 0 x276000 x276001 x276002 x276003 x276004)
def spec_WriteProfile.l1 : Nat → ByteArray → List (S56) → Int → Int → List (S49) → List (S56) → Int → Int → Int → Option (ByteArray)
 | 0,_,_,_,_,_,_,_,_,_ => none
 | k + 1,x3,x32,x33,x34,x276000,x276001,x276002,x276003,x276004 => if x34 < x33 then (if 0 ≤ x34 then (if x34 < (x32.length : Int) then ((spec_l5decimal.f k ((rd_T56 x32 x34).f0)).bind fun t283 => (if 6 + t283.size ≤ 9223372036854775807 then (if ((⟨#[108,105,109,105,116,32]⟩ : ByteArray) ++ t283).size + 1 ≤ 9223372036854775807 then ((spec_l5decimal.f k ((rd_T56 x32 x34).f1)).bind fun t284 => (if (((⟨#[108,105,109,105,116,32]⟩ : ByteArray) ++ t283) ++ (⟨#[32]⟩ : ByteArray)).size + t284.size ≤ 9223372036854775807 then (if ((((⟨#[108,105,109,105,116,32]⟩ : ByteArray) ++ t283) ++ (⟨#[32]⟩ : ByteArray)) ++ t284).size + 1 ≤ 9223372036854775807 then ((spec_l5decimal.f k ((rd_T56 x32 x34).f2)).bind fun t285 => (if (((((⟨#[108,105,109,105,116,32]⟩ : ByteArray) ++ t283) ++ (⟨#[32]⟩ : ByteArray)) ++ t284) ++ (⟨#[32]⟩ : ByteArray)).size + t285.size ≤ 9223372036854775807 then (if ((((((⟨#[108,105,109,105,116,32]⟩ : ByteArray) ++ t283) ++ (⟨#[32]⟩ : ByteArray)) ++ t284) ++ (⟨#[32]⟩ : ByteArray)) ++ t285).size + 1 ≤ 9223372036854775807 then (if x3.size + (((((((⟨#[108,105,109,105,116,32]⟩ : ByteArray) ++ t283) ++ (⟨#[32]⟩ : ByteArray)) ++ t284) ++ (⟨#[32]⟩ : ByteArray)) ++ t285) ++ (⟨#[10]⟩ : ByteArray)).size ≤ 9223372036854775807 then (spec_WriteProfile.l1 k (x3 ++ (((((((⟨#[108,105,109,105,116,32]⟩ : ByteArray) ++ t283) ++ (⟨#[32]⟩ : ByteArray)) ++ t284) ++ (⟨#[32]⟩ : ByteArray)) ++ t285) ++ (⟨#[10]⟩ : ByteArray))) x32 x33 (wrap64 (x34 + 1)) x276000 x276001 x276002 x276003 x276004) else (none)) else (none)) else (none))) else (none)) else (none))) else (none)) else (none))) else (none)) else (none)) else ((spec_l5decimal.f k x276002).bind fun t286 => (if 6 + t286.size ≤ 9223372036854775807 then (if ((⟨#[116,114,97,105,110,32]⟩ : ByteArray) ++ t286).size + 5 ≤ 9223372036854775807 then ((spec_l5decimal.f k x276003).bind fun t287 => (if (((⟨#[116,114,97,105,110,32]⟩ : ByteArray) ++ t286) ++ (⟨#[32,101,110,100,32]⟩ : ByteArray)).size + t287.size ≤ 9223372036854775807 then (if ((((⟨#[116,114,97,105,110,32]⟩ : ByteArray) ++ t286) ++ (⟨#[32,101,110,100,32]⟩ : ByteArray)) ++ t287).size + 7 ≤ 9223372036854775807 then ((spec_l5decimal.f k x276004).bind fun t288 => (if (((((⟨#[116,114,97,105,110,32]⟩ : ByteArray) ++ t286) ++ (⟨#[32,101,110,100,32]⟩ : ByteArray)) ++ t287) ++ (⟨#[32,100,101,108,97,121,32]⟩ : ByteArray)).size + t288.size ≤ 9223372036854775807 then (if ((((((⟨#[116,114,97,105,110,32]⟩ : ByteArray) ++ t286) ++ (⟨#[32,101,110,100,32]⟩ : ByteArray)) ++ t287) ++ (⟨#[32,100,101,108,97,121,32]⟩ : ByteArray)) ++ t288).size + 1 ≤ 9223372036854775807 then (if x3.size + (((((((⟨#[116,114,97,105,110,32]⟩ : ByteArray) ++ t286) ++ (⟨#[32,101,110,100,32]⟩ : ByteArray)) ++ t287) ++ (⟨#[32,100,101,108,97,121,32]⟩ : ByteArray)) ++ t288) ++ (⟨#[10]⟩ : ByteArray)).size ≤ 9223372036854775807 then (if ((x3 ++ (((((((⟨#[116,114,97,105,110,32]⟩ : ByteArray) ++ t286) ++ (⟨#[32,101,110,100,32]⟩ : ByteArray)) ++ t287) ++ (⟨#[32,100,101,108,97,121,32]⟩ : ByteArray)) ++ t288) ++ (⟨#[10]⟩ : ByteArray))).size : Int) > 3000 then (some (⟨#[]⟩ : ByteArray)) else (some (x3 ++ (((((((⟨#[116,114,97,105,110,32]⟩ : ByteArray) ++ t286) ++ (⟨#[32,101,110,100,32]⟩ : ByteArray)) ++ t287) ++ (⟨#[32,100,101,108,97,121,32]⟩ : ByteArray)) ++ t288) ++ (⟨#[10]⟩ : ByteArray))))) else (none)) else (none)) else (none))) else (none)) else (none))) else (none)) else (none)))
end
def spec_WriteProfile.f (k : Nat) (l0_0 : List (S49)) (l0_1 : List (S56)) (a0_2 : Int) (a0_3 : Int) (a0_4 : Int) : Option (ByteArray):=(spec_ProfileOk.f k l0_0 l0_1 a0_2 a0_3 a0_4).bind fun t276 => (if t276 = 0 then (spec_WriteProfile.l0 k (⟨#[]⟩ : ByteArray) l0_0 (l0_0.length : Int) 0 l0_0 l0_1 a0_2 a0_3 a0_4) else (some (⟨#[]⟩ : ByteArray)))
theorem spec_WriteProfile.mono_l : ∀ k,(∀ y0 y1 y2 y3 y4 y5 y6 y7 y8,LeO (spec_WriteProfile.l0 k y0 y1 y2 y3 y4 y5 y6 y7 y8) (spec_WriteProfile.l0 (k + 1) y0 y1 y2 y3 y4 y5 y6 y7 y8))∧(∀ y0 y1 y2 y3 y4 y5 y6 y7 y8,LeO (spec_WriteProfile.l1 k y0 y1 y2 y3 y4 y5 y6 y7 y8) (spec_WriteProfile.l1 (k + 1) y0 y1 y2 y3 y4 y5 y6 y7 y8))
 | 0 => ⟨fun _ _ _ _ _ _ _ _ _ r h => by simp [spec_WriteProfile.l0] at h,fun _ _ _ _ _ _ _ _ _ r h => by simp [spec_WriteProfile.l1] at h⟩
 | k + 1 => by
  obtain ⟨ih0,ih1⟩:=spec_WriteProfile.mono_l k;refine ⟨?_,?_⟩
  ·intro y0 y1 y2 y3 y4 y5 y6 y7 y8;unfold spec_WriteProfile.l0
   repeat' first
   | (with_reducible exact ih0 _ _ _ _ _ _ _ _ _)
   | (with_reducible exact ih1 _ _ _ _ _ _ _ _ _)
   | (with_reducible exact spec_ProfileOk.mono _ _ _ _ _ _)
   | (with_reducible exact spec_l5decimal.mono _ _)
   | (with_reducible exact LeO.refl _)
   | (with_reducible exact LeO.none _)
   | (with_reducible refine LeO.ite ?_ ?_)
   | (with_reducible refine LeO.bind ?_ (fun _ => ?_))
   | exact ih0 _ _ _ _ _ _ _ _ _
   | exact ih1 _ _ _ _ _ _ _ _ _
   | exact spec_ProfileOk.mono _ _ _ _ _ _
   | exact spec_l5decimal.mono _ _
   | exact LeO.none _
   | refine LeO.ite ?_ ?_
   | refine LeO.bind ?_ (fun _ => ?_)
  ·intro y0 y1 y2 y3 y4 y5 y6 y7 y8;unfold spec_WriteProfile.l1
   repeat' first
   | (with_reducible exact ih0 _ _ _ _ _ _ _ _ _)
   | (with_reducible exact ih1 _ _ _ _ _ _ _ _ _)
   | (with_reducible exact spec_ProfileOk.mono _ _ _ _ _ _)
   | (with_reducible exact spec_l5decimal.mono _ _)
   | (with_reducible exact LeO.refl _)
   | (with_reducible exact LeO.none _)
   | (with_reducible refine LeO.ite ?_ ?_)
   | (with_reducible refine LeO.bind ?_ (fun _ => ?_))
   | exact ih0 _ _ _ _ _ _ _ _ _
   | exact ih1 _ _ _ _ _ _ _ _ _
   | exact spec_ProfileOk.mono _ _ _ _ _ _
   | exact spec_l5decimal.mono _ _
   | exact LeO.none _
   | refine LeO.ite ?_ ?_
   | refine LeO.bind ?_ (fun _ => ?_)
theorem spec_WriteProfile.mono : ∀ a0 a1 a2 a3 a4 k,LeO (spec_WriteProfile.f k a0 a1 a2 a3 a4) (spec_WriteProfile.f (k + 1) a0 a1 a2 a3 a4):=by
 intro a0 a1 a2 a3 a4 k;obtain ⟨ih0,ih1⟩:=spec_WriteProfile.mono_l k;unfold spec_WriteProfile.f
 repeat' first
   | (with_reducible exact ih0 _ _ _ _ _ _ _ _ _)
   | (with_reducible exact ih1 _ _ _ _ _ _ _ _ _)
   | (with_reducible exact spec_ProfileOk.mono _ _ _ _ _ _)
   | (with_reducible exact spec_l5decimal.mono _ _)
   | (with_reducible exact LeO.refl _)
   | (with_reducible exact LeO.none _)
   | (with_reducible refine LeO.ite ?_ ?_)
   | (with_reducible refine LeO.bind ?_ (fun _ => ?_))
   | exact ih0 _ _ _ _ _ _ _ _ _
   | exact ih1 _ _ _ _ _ _ _ _ _
   | exact spec_ProfileOk.mono _ _ _ _ _ _
   | exact spec_l5decimal.mono _ _
   | exact LeO.none _
   | refine LeO.ite ?_ ?_
   | refine LeO.bind ?_ (fun _ => ?_)
def spec_WriteProfile.T7 : Bool × List (List Nat × List Nat):=(true,[([],[]),([],[]),([1],[1]),([2],[2]),([3],[3]),([4],[4]),([],[]),([6],[6]),([7,3],[7]),([5,8],[5,8]),([9],[9]),([0,10],[0,10]),([11,8,0,1,2,3,4,5,6,7,8,9,10,11],[0,11])])
def spec_WriteProfile.B7 : List Nat:=[0,0,2,6,14,30,0,64,206,510,1022,2047,4095]
theorem spec_WriteProfile.tab7 : rtab .any (opsOf Tryd.f6 7) = spec_WriteProfile.T7:=by kernel_rfl
theorem spec_WriteProfile.bits7 : waitsOk spec_WriteProfile.T7.2 spec_WriteProfile.B7 = true:=by kernel_rfl
def spec_WriteProfile.T12 : Bool × List (List Nat × List Nat):=(true,[([],[]),([],[]),([1],[1]),([2],[2]),([3],[3]),([4],[4]),([],[]),([6],[6]),([7,3],[7]),([5,8],[5,8]),([9],[9]),([],[]),([11],[11]),([12,8],[12]),([10,13],[10,13]),([14],[14]),([0,15],[0,15]),([16,13,0,1,2,3,4,5,6,7,8,9,10,11,12,13,14,15,16],[0,16])])
def spec_WriteProfile.B12 : List Nat:=[0,0,2,6,14,30,0,64,206,510,1022,0,2048,6606,16382,32766,65535,131071]
theorem spec_WriteProfile.tab12 : rtab .any (opsOf Tryd.f6 12) = spec_WriteProfile.T12:=by kernel_rfl
theorem spec_WriteProfile.bits12 : waitsOk spec_WriteProfile.T12.2 spec_WriteProfile.B12 = true:=by kernel_rfl
def spec_WriteProfile.T14 : Bool × List (List Nat × List Nat):=(true,[([],[]),([],[]),([1],[1]),([2],[2]),([3],[3]),([4],[4]),([],[]),([6],[6]),([7,3],[7]),([5,8],[5,8]),([9],[9]),([],[]),([11],[11]),([12,8],[12]),([10,13],[10,13]),([14],[14]),([0,15],[0,15]),([16,13,0,1,2,3,4,5,6,7,8,9,10,11,12,13,14,15,16],[0,16])])
def spec_WriteProfile.B14 : List Nat:=[0,0,2,6,14,30,0,64,206,510,1022,0,2048,6606,16382,32766,65535,131071]
theorem spec_WriteProfile.tab14 : rtab .any (opsOf Tryd.f6 14) = spec_WriteProfile.T14:=by kernel_rfl
theorem spec_WriteProfile.bits14 : waitsOk spec_WriteProfile.T14.2 spec_WriteProfile.B14 = true:=by kernel_rfl
set_option maxHeartbeats 8000000 in
set_option maxRecDepth 100000 in
theorem spec_WriteProfile.calls (k : Nat) (A0_0 : Option Addr) (c0_0 : Nat) (l0_0 : List (S49)) (A0_1 : Option Addr) (c0_1 : Nat) (l0_1 : List (S56)) (a0_2 : Int) (a0_3 : Int) (a0_4 : Int) (r : ByteArray) (w : World) (hr0_0 : Kd.C k49 w A0_0 l0_0.length l0_0) (hc0_0 : l0_0.length ≤ c0_0) (hr0_1 : Kd.C k56 w A0_1 l0_1.length l0_1) (hc0_1 : l0_1.length ≤ c0_1) (h : spec_WriteProfile.f k l0_0 l0_1 a0_2 a0_3 a0_4 = some r) :
  Calls Tryd.prog 6 #[.agg #[.slice A0_0 l0_0.length c0_0,.slice A0_1 l0_1.length c0_1,.int .i64 a0_2,.int .i64 a0_3,.int .i64 a0_4]] w fun e w' => e = .returned (.string r)∧Below w.heap.size w w':=by
 have hu26:=Tryd.underlying26;have hu49:=Tryd.underlying49;have hu56:=Tryd.underlying56;have HR0_0:=Am hr0_0;have HC0_0:=Am hc0_0;clear hr0_0 hc0_0;have HR0_1:=Am hr0_1;have HC0_1:=Am hc0_1;clear hr0_1 hc0_1;have HB:=Am (Below.refl w.heap.size w);have H : ((spec_ProfileOk.f k l0_0 l0_1 a0_2 a0_3 a0_4).bind fun t276 => (if t276 = 0 then (spec_WriteProfile.l0 k (⟨#[]⟩ : ByteArray) l0_0 (l0_0.length : Int) 0 l0_0 l0_1 a0_2 a0_3 a0_4) else (some (⟨#[]⟩ : ByteArray)))) = some r:=h;clear h;replace H:=Option.bind_eq_some_iff.mp H;obtain ⟨t276,A20,H⟩:=H;have A2:=Am A20;clear A20
 by_cases c3 : t276 = 0
 ·rw [if_pos c3] at H;have c3b0 : (t276 == 0) = true:=beq_iff_eq.mpr c3;have c3b1 : (t276 != 0) = false:=bne_eq_false_iff_eq.mpr c3;clear c3;have H':=Am H;clear H
  go_enter Tryd.func6,Tryd.ntmps6
  go_wp2_with (first|((with_reducible refine gate_dst (N:=1) rfl ?_);refine box_event ?hg (N:=1) ?hd (cs:=#[.slice A0_0 l0_0.length c0_0,.slice A0_1 l0_1.length c0_1,.int .i64 a0_2,.int .i64 a0_3,.int .i64 a0_4]) (t:=26) ?hr ?_;(case hd => rfl);(case hg => rfl);(case hr => first|(go_simp;done)|(go_simp;rfl));intro gb275 hg w4 hbox hb;have n0_:=Am (below_step (bL HB) hb);have n1_:=Am (hbox);have n2_:=Am ((gS_ hg HB));have n3_:=Am ((gS_ hg HB));clear HB;have HB:=n0_;have BK275:=n1_;have GW275:=n2_;have GE275:=n3_;clear n0_ n1_ n2_ n3_;clear hb hbox hg;have hcz5_0:=cC_ BK275 0 rfl;have hcz5_1:=cC_ BK275 1 rfl;have hcz5_2:=cC_ BK275 2 rfl;have hcz5_3:=cC_ BK275 3 rfl;have hcz5_4:=cC_ BK275 4 rfl;have hfz5_0:=kF BK275.out 0;have hfz5_1:=kF BK275.out 1;have hfz5_2:=kF BK275.out 2;have hfz5_3:=kF BK275.out 3;have hfz5_4:=kF BK275.out 4)|((with_reducible refine gate_callee (f:=20) rfl ?_);refine goesL_ (some 9) rfl rfl Tryd.func20 (by kernel_rfl) rfl #[.agg #[.slice A0_0 l0_0.length c0_0,.slice A0_1 l0_1.length c0_1,.int .i64 a0_2,.int .i64 a0_3,.int .i64 a0_4]] rfl lA ?_;(with_reducible refine (spec_ProfileOk.calls k _ _ l0_0 _ _ l0_1 a0_2 a0_3 a0_4 t276 _ ?side1 ?side2 ?side3 ?side4 A2.out).mono ?_);(case side1 => exact cL_ HR0_0 HB);(case side2 => exact HC0_0.out);(case side3 => exact cL_ HR0_1 HB);(case side4 => exact HC0_1.out);rintro e w6 ⟨rfl,hb⟩;refine ⟨_,rfl,?_⟩;have n0_:=Am (kB_ BK275 hb);have n1_:=Am (below_step (bL HB) hb);clear BK275;clear HB;have BK275:=n0_;have HB:=n1_;clear n0_ n1_;(try clear hb);(try clear hb2);(try clear hk);(try clear hi);have hcz7_0:=cC_ BK275 0 rfl;have hcz7_1:=cC_ BK275 1 rfl;have hcz7_2:=cC_ BK275 2 rfl;have hcz7_3:=cC_ BK275 3 rfl;have hcz7_4:=cC_ BK275 4 rfl;have hfz7_0:=kF BK275.out 0;have hfz7_1:=kF BK275.out 1;have hfz7_2:=kF BK275.out 2;have hfz7_3:=kF BK275.out 3;have hfz7_4:=kF BK275.out 4))
  go_loopg [3,14] k (fun kq v3 v14 w' => ∃ (x3_1 : ByteArray) (x14_1 : Int),v3 = .string x3_1∧v14 = .int .i64 x14_1∧As (spec_WriteProfile.l0 kq x3_1 l0_0 (l0_0.length : Int) x14_1 l0_0 l0_1 a0_2 a0_3 a0_4 = some r)∧As (kq ≤ k)∧As (w'.heap[gb275]? = some (.cells #[(.slice A0_0 l0_0.length c0_0),(.slice A0_1 l0_1.length c0_1),.int .i64 a0_2,.int .i64 a0_3,.int .i64 a0_4] 26 (0,0)))∧As (Below w.heap.size w w'))
  case atStart => exact ⟨((⟨#[]⟩ : ByteArray)),(0),vL_,vL_,H',⟨Nat.le_refl _⟩,⟨kL BK275⟩,⟨bL HB⟩⟩
  case round =>
   clear H';(try clear c2);(try clear p2);(try clear c3);(try clear c3b0);(try clear c3b1);(try clear c6);(try clear hcz5_0 hcz5_1 hcz5_2 hcz5_3 hcz5_4 hcz7_0 hcz7_1 hcz7_2 hcz7_3 hcz7_4 hfz5_0 hfz5_1 hfz5_2 hfz5_3 hfz5_4 hfz7_0 hfz7_1 hfz7_2 hfz7_3 hfz7_4);obtain ⟨x3_1,x14_1,rfl,rfl,HA,HK1,BK275,HB⟩:=hrel
   cases gk with
   | zero => exact absurd HA.out (by simp [spec_WriteProfile.l0])
   | succ k1 =>
    have H:=HA.out;clear HA;simp only [spec_WriteProfile.l0] at H
    by_cases c8 : x14_1 < (l0_0.length : Int)
    ·rw [if_pos c8] at H;have c8b0 : decide (x14_1 < (l0_0.length : Int)) = true:=decide_eq_true c8;clear c8
     by_cases c9 : 0 ≤ x14_1
     ·rw [if_pos c9] at H;have c9b0 : decide (0 ≤ x14_1) = true:=decide_eq_true c9;clear c9
      by_cases c10 : x14_1 < (l0_0.length : Int)
      ·rw [if_pos c10] at H;have c10b0 : decide (x14_1 < (l0_0.length : Int)) = true:=decide_eq_true c10;clear c10;replace H:=Option.bind_eq_some_iff.mp H;obtain ⟨t279,A110,H⟩:=H;have A11:=Am A110;clear A110
       by_cases c12 : 6 + t279.size ≤ 9223372036854775807
       ·rw [if_pos c12] at H;have c12b0:=eq_true c12;have c12b1 : decide (6 + t279.size ≤ 9223372036854775807) = true:=decide_eq_true c12
        try have c12b2 : (9223372036854775807 < 6 + t279.size) = False:=eq_false (Nat.not_lt.2 c12)
        by_cases c13 : ((⟨#[116,114,97,99,107,32]⟩ : ByteArray) ++ t279).size + 7 ≤ 9223372036854775807
        ·rw [if_pos c13] at H;have c13b0:=eq_true c13;have c13b1 : decide (((⟨#[116,114,97,99,107,32]⟩ : ByteArray) ++ t279).size + 7 ≤ 9223372036854775807) = true:=decide_eq_true c13
         try have c13b2 : (9223372036854775807 < ((⟨#[116,114,97,99,107,32]⟩ : ByteArray) ++ t279).size + 7) = False:=eq_false (Nat.not_lt.2 c13)
         try have c13b3 : (9223372036854775807 < 6 + t279.size + 7) = False:=eq_false (Nat.not_lt.2 (by have h_:=c13;simp only [ByteArray.size_append] at h_;exact h_))
         replace H:=Option.bind_eq_some_iff.mp H;obtain ⟨t280,A140,H⟩:=H;have A14:=Am A140;clear A140
         by_cases c15 : (((⟨#[116,114,97,99,107,32]⟩ : ByteArray) ++ t279) ++ (⟨#[32,98,114,97,107,101,32]⟩ : ByteArray)).size + t280.size ≤ 9223372036854775807
         ·rw [if_pos c15] at H;have c15b0:=eq_true c15;have c15b1 : decide ((((⟨#[116,114,97,99,107,32]⟩ : ByteArray) ++ t279) ++ (⟨#[32,98,114,97,107,101,32]⟩ : ByteArray)).size + t280.size ≤ 9223372036854775807) = true:=decide_eq_true c15
          try have c15b2 : (9223372036854775807 < (((⟨#[116,114,97,99,107,32]⟩ : ByteArray) ++ t279) ++ (⟨#[32,98,114,97,107,101,32]⟩ : ByteArray)).size + t280.size) = False:=eq_false (Nat.not_lt.2 c15)
          try have c15b3 : (9223372036854775807 < 6 + t279.size + 7 + t280.size) = False:=eq_false (Nat.not_lt.2 (by have h_:=c15;simp only [ByteArray.size_append] at h_;exact h_))
          by_cases c16 : ((((⟨#[116,114,97,99,107,32]⟩ : ByteArray) ++ t279) ++ (⟨#[32,98,114,97,107,101,32]⟩ : ByteArray)) ++ t280).size + 1 ≤ 9223372036854775807
          ·rw [if_pos c16] at H;have c16b0:=eq_true c16;have c16b1 : decide (((((⟨#[116,114,97,99,107,32]⟩ : ByteArray) ++ t279) ++ (⟨#[32,98,114,97,107,101,32]⟩ : ByteArray)) ++ t280).size + 1 ≤ 9223372036854775807) = true:=decide_eq_true c16
           try have c16b2 : (9223372036854775807 < ((((⟨#[116,114,97,99,107,32]⟩ : ByteArray) ++ t279) ++ (⟨#[32,98,114,97,107,101,32]⟩ : ByteArray)) ++ t280).size + 1) = False:=eq_false (Nat.not_lt.2 c16)
           try have c16b3 : (9223372036854775807 < 6 + t279.size + 7 + t280.size + 1) = False:=eq_false (Nat.not_lt.2 (by have h_:=c16;simp only [ByteArray.size_append] at h_;exact h_))
           by_cases c17 : x3_1.size + (((((⟨#[116,114,97,99,107,32]⟩ : ByteArray) ++ t279) ++ (⟨#[32,98,114,97,107,101,32]⟩ : ByteArray)) ++ t280) ++ (⟨#[10]⟩ : ByteArray)).size ≤ 9223372036854775807
           ·rw [if_pos c17] at H;have c17b0:=eq_true c17;have c17b1 : decide (x3_1.size + (((((⟨#[116,114,97,99,107,32]⟩ : ByteArray) ++ t279) ++ (⟨#[32,98,114,97,107,101,32]⟩ : ByteArray)) ++ t280) ++ (⟨#[10]⟩ : ByteArray)).size ≤ 9223372036854775807) = true:=decide_eq_true c17
            try have c17b2 : (9223372036854775807 < x3_1.size + (((((⟨#[116,114,97,99,107,32]⟩ : ByteArray) ++ t279) ++ (⟨#[32,98,114,97,107,101,32]⟩ : ByteArray)) ++ t280) ++ (⟨#[10]⟩ : ByteArray)).size) = False:=eq_false (Nat.not_lt.2 c17)
            try have c17b3 : (9223372036854775807 < x3_1.size + (6 + t279.size + 7 + t280.size + 1)) = False:=eq_false (Nat.not_lt.2 (by have h_:=c17;simp only [ByteArray.size_append] at h_;exact h_))
            have H':=Am H;clear H;have p277 : 0 ≤ (x14_1 : Int):=of_decide_eq_true (by first|(with_reducible assumption)|assumption);have q277 : x14_1 < (l0_0.length : Int):=of_decide_eq_true (by first|(with_reducible assumption)|assumption);obtain ⟨ad277,e277,hx277_0,hx277_1⟩:=at_T49 HR0_0.out x14_1 p277 q277;cases e277;replace hx277_0:=(HB.out.cell (World.block_lt_of_cell? w _ hx277_0)).trans hx277_0;replace hx277_1:=(HB.out.cell (World.block_lt_of_cell? w _ hx277_1)).trans hx277_1;replace p277:=eq_true p277;replace q277:=eq_true q277
            try go_wp2_with (first|((with_reducible refine gate_dst (N:=5) rfl ?_);refine box_event ?hg (N:=5) ?hd (cs:=#[.int .i64 0,.int .i64 0]) (t:=49) ?hr ?_;(case hd => rfl);(case hg => rfl);(case hr => first|(go_simp;done)|(go_simp;rfl));intro gb278 hg w18 hbox hb;have n0_:=Am (kB_ BK275 hb);have n1_:=Am (below_step (bL HB) hb);have n2_:=Am (hbox);have n3_:=Am ((gS_ hg HB));have n4_:=Am ((gS_ hg HB));have n5_:=Am ((gM_ hg BK275));have n6_:=Am ((gN_ hg BK275));clear BK275;clear HB;have BK275:=n0_;have HB:=n1_;have BK278:=n2_;have GW278:=n3_;have GE278:=n4_;have NB275_278:=n5_;have NB278_275:=n6_;clear n0_ n1_ n2_ n3_ n4_ n5_ n6_;clear hb hbox hg;have hnb19:=NB278_275.out;have hnc19:=NB275_278.out;have hcz20_0:=cC_ BK278 0 rfl;have hcz20_1:=cC_ BK278 1 rfl;have hfz20_0:=kF BK278.out 0;have hfz20_1:=kF BK278.out 1))
            have n0_ : As (((w18.setCell ⟨gb278,0,none⟩ (.int .i64 ((rd_T49 l0_0 x14_1).f0))).setCell ⟨gb278,1,none⟩ (.int .i64 ((rd_T49 l0_0 x14_1).f1))).heap[gb275]? = some (.cells #[.slice (some ad277) l0_0.length c0_0,.slice A0_1 l0_1.length c0_1,.int .i64 a0_2,.int .i64 a0_3,.int .i64 a0_4] 26 (0,0))):=⟨by (with_reducible repeat (first|refine kN ?_ _|refine kD ?_|refine kA ?_ _));refine blk_far ?_ NB275_278.out _;(with_reducible repeat (first|refine kN ?_ _|refine kD ?_|refine kA ?_ _));refine blk_far ?_ NB275_278.out _;(with_reducible repeat (first|refine kN ?_ _|refine kD ?_|refine kA ?_ _));exact BK275.out⟩
            have n1_ : As (((w18.setCell ⟨gb278,0,none⟩ (.int .i64 ((rd_T49 l0_0 x14_1).f0))).setCell ⟨gb278,1,none⟩ (.int .i64 ((rd_T49 l0_0 x14_1).f1))).heap[gb278]? = some (.cells #[.int .i64 ((rd_T49 l0_0 x14_1).f0),.int .i64 ((rd_T49 l0_0 x14_1).f1)] 49 (0,0))):=⟨by (with_reducible repeat (first|refine kN ?_ _|refine kD ?_|refine kA ?_ _));refine blk_put (cs:=#[.int .i64 ((rd_T49 l0_0 x14_1).f0),.int .i64 0]) ?_ 1 _ rfl;(with_reducible repeat (first|refine kN ?_ _|refine kD ?_|refine kA ?_ _));refine blk_put (cs:=#[.int .i64 0,.int .i64 0]) ?_ 0 _ rfl;(with_reducible repeat (first|refine kN ?_ _|refine kD ?_|refine kA ?_ _));exact BK278.out⟩
            have n2_ : As (Below w.heap.size w ((w18.setCell ⟨gb278,0,none⟩ (.int .i64 ((rd_T49 l0_0 x14_1).f0))).setCell ⟨gb278,1,none⟩ (.int .i64 ((rd_T49 l0_0 x14_1).f1)))):=⟨bL HB⟩
            (try clear BK275);(try clear BK278);(try clear HB);generalize ((w18.setCell ⟨gb278,0,none⟩ (.int .i64 ((rd_T49 l0_0 x14_1).f0))).setCell ⟨gb278,1,none⟩ (.int .i64 ((rd_T49 l0_0 x14_1).f1))) = w21 at n0_ n1_ n2_ ⊢;have BK275:=n0_;have BK278:=n1_;have HB:=n2_;clear n0_ n1_ n2_;have n0_:=Am (kD BK275.out);have n1_:=Am (kD BK278.out);have n2_:=Am (bD HB.out);clear BK275;clear BK278;clear HB;have BK275:=n0_;have BK278:=n1_;have HB:=n2_;clear n0_ n1_ n2_;refine start_ (n:=13) (S:=fun w' => w'.cell? ⟨gb278,0,none⟩ = some (.int .i64 ((rd_T49 l0_0 x14_1).f0))∧w'.cell? ⟨gb278,1,none⟩ = some (.int .i64 ((rd_T49 l0_0 x14_1).f1))) (ds:=[]) #[false,false,false,false,false,false,false,false,false,false,false,false,false] (by kernel_rfl) rfl rfl ⟨cC_ BK278 0 rfl,cC_ BK278 1 rfl⟩ (fun hHeld => ?_);refine with_tabW spec_WriteProfile.tab7 spec_WriteProfile.bits7 (fun HT_ HW_ => ?_);generalize w21.drew = w22 at BK275 BK278 HB hHeld ⊢;refine pure_ (i:=0) (N:=some 18) (v:=?_) (a':=?_) #[true,false,false,false,false,false,false,false,false,false,false,false,false] rfl rfl (any_of HT_.out (by kernel_rfl)) (fun _ _ _ h => h) (Or.inl ⟨by rfl,?_⟩) ?_ ?_;rotate_left
            ·intro w'
             go_simp
             with_reducible rfl
            rotate_left
            ·simp only [Act.put,pS]
             rfl
            refine pure_ (i:=1) (N:=some 19) (v:=?_) (a':=?_) #[true,true,false,false,false,false,false,false,false,false,false,false,false] rfl rfl (any_of HT_.out (by kernel_rfl)) (fun _ _ _ h => h) (Or.inl ⟨by rfl,?_⟩) ?_ ?_;rotate_left
            ·intro w'
             go_simp
             with_reducible rfl
            rotate_left
            ·simp only [Act.put,pS]
             rfl
            refine pure_ (i:=6) (N:=some 24) (v:=?_) (a':=?_) #[true,true,false,false,false,false,true,false,false,false,false,false,false] rfl rfl (any_of HT_.out (by kernel_rfl)) (fun _ _ _ h => h) (Or.inl ⟨by rfl,?_⟩) ?_ ?_;rotate_left
            ·intro w'
             go_simp
             with_reducible rfl
            rotate_left
            ·simp only [Act.put,pS]
             rfl
            refine take_ (i:=2) (N:=some 20) (v:=?_) (a':=?_) #[true,true,true,false,false,false,true,false,false,false,false,false,false] rfl rfl (take_ofW HT_.out HW_.out (by kernel_rfl)) (fun _ _ _ h => h) (Or.inl ⟨by rfl,?_⟩) hHeld ?_ ?_;rotate_left
            ·rintro w' ⟨s0,s1⟩
             go_simp
             with_reducible rfl
            rotate_left
            ·simp only [Act.put,pS]
             rfl
            refine take_ (i:=7) (N:=some 25) (v:=?_) (a':=?_) #[true,true,true,false,false,false,true,true,false,false,false,false,false] rfl rfl (take_ofW HT_.out HW_.out (by kernel_rfl)) (fun _ _ _ h => h) (Or.inl ⟨by rfl,?_⟩) hHeld ?_ ?_;rotate_left
            ·rintro w' ⟨s0,s1⟩
             go_simp
             with_reducible rfl
            rotate_left
            ·simp only [Act.put,pS]
             rfl
            refine one_ (i:=3) (N:=some 21) #[true,true,true,true,false,false,true,true,false,false,false,false,false] rfl rfl (one_of HT_.out (by kernel_rfl)) (by decide) (fun K hK => ?_);refine goes_ Tryd.func21 (by kernel_rfl) rfl #[.int .i64 ((rd_T49 l0_0 x14_1).f0)] (by rfl) rfl rfl lA ?_
            with_reducible refine (spec_l5decimal.calls k1 ((rd_T49 l0_0 x14_1).f0) t279 _ A11.out).mono ?_
            rintro e w23 ⟨rfl,hb⟩;refine ⟨_,rfl,?_⟩;have n0_:=Am (kB_ BK275 hb);have n1_:=Am (kB_ BK278 hb);have n2_:=Am (below_step (bL HB) hb);clear BK275;clear BK278;clear HB;have BK275:=n0_;have BK278:=n1_;have HB:=n2_;clear n0_ n1_ n2_;(try clear hb);(try clear hb2);(try clear hk);(try clear hi);refine hK.out _ _ ⟨cC_ BK278 0 rfl,cC_ BK278 1 rfl⟩ (fun hHeld => ?_);clear hK K;refine norm_ (a':=?_) ?_ ?_;rotate_left
            ·show Act.put _ (some 21) _ = _
             simp only [Act.put,pS]
             rfl
            refine pure_ (i:=4) (N:=some 22) (v:=?_) (a':=?_) #[true,true,true,true,true,false,true,true,false,false,false,false,false] rfl rfl (any_of HT_.out (by kernel_rfl)) (fun _ _ _ h => h) (Or.inl ⟨by rfl,?_⟩) ?_ ?_;rotate_left
            ·intro w'
             go_simp
             with_reducible rfl
            rotate_left
            ·simp only [Act.put,pS]
             rfl
            refine pure_ (i:=5) (N:=some 23) (v:=?_) (a':=?_) #[true,true,true,true,true,true,true,true,false,false,false,false,false] rfl rfl (any_of HT_.out (by kernel_rfl)) (fun _ _ _ h => h) (Or.inl ⟨by rfl,?_⟩) ?_ ?_;rotate_left
            ·intro w'
             go_simp
             with_reducible rfl
            rotate_left
            ·simp only [Act.put,pS]
             rfl
            refine one_ (i:=8) (N:=some 26) #[true,true,true,true,true,true,true,true,true,false,false,false,false] rfl rfl (one_of HT_.out (by kernel_rfl)) (by decide) (fun K hK => ?_);refine goes_ Tryd.func21 (by kernel_rfl) rfl #[.int .i64 ((rd_T49 l0_0 x14_1).f1)] (by rfl) rfl rfl lA ?_
            with_reducible refine (spec_l5decimal.calls k1 ((rd_T49 l0_0 x14_1).f1) t280 _ A14.out).mono ?_
            rintro e w24 ⟨rfl,hb⟩;refine ⟨_,rfl,?_⟩;have n0_:=Am (kB_ BK275 hb);have n1_:=Am (kB_ BK278 hb);have n2_:=Am (below_step (bL HB) hb);clear BK275;clear BK278;clear HB;have BK275:=n0_;have BK278:=n1_;have HB:=n2_;clear n0_ n1_ n2_;(try clear hb);(try clear hb2);(try clear hk);(try clear hi);refine hK.out _ _ ⟨cC_ BK278 0 rfl,cC_ BK278 1 rfl⟩ (fun hHeld => ?_);clear hK K;refine norm_ (a':=?_) ?_ ?_;rotate_left
            ·show Act.put _ (some 26) _ = _
             simp only [Act.put,pS]
             rfl
            refine pure_ (i:=9) (N:=some 27) (v:=?_) (a':=?_) #[true,true,true,true,true,true,true,true,true,true,false,false,false] rfl rfl (any_of HT_.out (by kernel_rfl)) (fun _ _ _ h => h) (Or.inl ⟨by rfl,?_⟩) ?_ ?_;rotate_left
            ·intro w'
             go_simp
             with_reducible rfl
            rotate_left
            ·simp only [Act.put,pS]
             rfl
            refine pure_ (i:=10) (N:=some 28) (v:=?_) (a':=?_) #[true,true,true,true,true,true,true,true,true,true,true,false,false] rfl rfl (any_of HT_.out (by kernel_rfl)) (fun _ _ _ h => h) (Or.inl ⟨by rfl,?_⟩) ?_ ?_;rotate_left
            ·intro w'
             go_simp
             with_reducible rfl
            rotate_left
            ·simp only [Act.put,pS]
             rfl
            refine pure_ (i:=11) (N:=some 29) (v:=?_) (a':=?_) #[true,true,true,true,true,true,true,true,true,true,true,true,false] rfl rfl (any_of HT_.out (by kernel_rfl)) (fun _ _ _ h => h) (Or.inl ⟨by rfl,?_⟩) ?_ ?_;rotate_left
            ·intro w'
             go_simp
             with_reducible rfl
            rotate_left
            ·simp only [Act.put,pS]
             rfl
            refine pure_ (i:=12) (N:=some 3) (v:=?_) (a':=?_) #[true,true,true,true,true,true,true,true,true,true,true,true,true] rfl rfl (any_of HT_.out (by kernel_rfl)) (fun _ _ _ h => h) (Or.inl ⟨by rfl,?_⟩) ?_ ?_;rotate_left
            ·intro w'
             go_simp
             with_reducible rfl
            rotate_left
            ·simp only [Act.put,pS]
             rfl
            refine done_ (done_of HT_.out (by kernel_rfl)) ?_
            try go_wp2
            go_roundg k1
            case measure => have:=HK1.out;omega
            case rel => exact ⟨(x3_1 ++ (((((⟨#[116,114,97,99,107,32]⟩ : ByteArray) ++ t279) ++ (⟨#[32,98,114,97,107,101,32]⟩ : ByteArray)) ++ t280) ++ (⟨#[10]⟩ : ByteArray))),(wrap64 (x14_1 + 1)),vL_,vL_,H',⟨by have:=HK1.out;omega⟩,⟨kL BK275⟩,⟨bL HB⟩⟩
           ·rw [if_neg c17] at H;exact absurd H (by simp)
          ·rw [if_neg c16] at H;exact absurd H (by simp)
         ·rw [if_neg c15] at H;exact absurd H (by simp)
        ·rw [if_neg c13] at H;exact absurd H (by simp)
       ·rw [if_neg c12] at H;exact absurd H (by simp)
      ·rw [if_neg c10] at H;exact absurd H (by simp)
     ·rw [if_neg c9] at H;exact absurd H (by simp)
    ·rw [if_neg c8] at H;have c8b0 : decide (x14_1 < (l0_0.length : Int)) = false:=decide_eq_false c8;clear c8;have H':=Am H;clear H;have hcz25_0:=cC_ BK275 0 rfl;have hcz25_1:=cC_ BK275 1 rfl;have hcz25_2:=cC_ BK275 2 rfl;have hcz25_3:=cC_ BK275 3 rfl;have hcz25_4:=cC_ BK275 4 rfl;have hfz25_0:=kF BK275.out 0;have hfz25_1:=kF BK275.out 1;have hfz25_2:=kF BK275.out 2;have hfz25_3:=kF BK275.out 3;have hfz25_4:=kF BK275.out 4;go_wp2
     go_loopg [3,34] k1 (fun kq v3 v34 w' => ∃ (x3_2 : ByteArray) (x34_2 : Int),v3 = .string x3_2∧v34 = .int .i64 x34_2∧As (spec_WriteProfile.l1 kq x3_2 l0_1 (l0_1.length : Int) x34_2 l0_0 l0_1 a0_2 a0_3 a0_4 = some r)∧As (kq ≤ k1)∧As (w'.heap[gb275]? = some (.cells #[(.slice A0_0 l0_0.length c0_0),(.slice A0_1 l0_1.length c0_1),.int .i64 a0_2,.int .i64 a0_3,.int .i64 a0_4] 26 (0,0)))∧As (Below w.heap.size w w'))
     case atStart => exact ⟨(x3_1),(0),vL_,vL_,H',⟨Nat.le_refl _⟩,⟨kL BK275⟩,⟨bL HB⟩⟩
     case round =>
      clear H';(try clear c1);(try clear c2);(try clear p2);(try clear q2);(try clear hx2);(try clear c3);(try clear c3b0);(try clear c3b1);(try clear c6);(try clear p6);(try clear c8);(try clear c8b0);(try clear c9);(try clear c9b0);(try clear c10);(try clear c10b0);(try clear c12);(try clear c12b0);(try clear c12b1);(try clear c12b2);(try clear c13);(try clear c13b0);(try clear c13b1);(try clear c13b2);(try clear c15);(try clear c15b0);(try clear c15b1);(try clear c15b2);(try clear c16);(try clear c16b0);(try clear c16b1);(try clear c16b2);(try clear c17);(try clear c17b0);(try clear c17b1);(try clear c17b2);(try clear c19);(try clear c20);(try clear c21);(try clear hcz20_0 hcz20_1 hcz25_0 hcz25_1 hcz25_2 hcz25_3 hcz25_4 hcz5_0 hcz5_1 hcz5_2 hcz5_3 hcz5_4 hcz7_0 hcz7_1 hcz7_2 hcz7_3 hcz7_4 hfz20_0 hfz20_1 hfz25_0 hfz25_1 hfz25_2 hfz25_3 hfz25_4 hfz5_0 hfz5_1 hfz5_2 hfz5_3 hfz5_4 hfz7_0 hfz7_1 hfz7_2 hfz7_3 hfz7_4);(try clear hx277_0);(try clear hx277_1);(try clear p2);(try clear p277);(try clear q277);obtain ⟨x3_2,x34_2,rfl,rfl,HA,HK2,BK275,HB⟩:=hrel
      cases gk with
      | zero => exact absurd HA.out (by simp [spec_WriteProfile.l1])
      | succ k2 =>
       have H:=HA.out;clear HA;simp only [spec_WriteProfile.l1] at H
       by_cases c26 : x34_2 < (l0_1.length : Int)
       ·rw [if_pos c26] at H;have c26b0 : decide (x34_2 < (l0_1.length : Int)) = true:=decide_eq_true c26;clear c26
        by_cases c27 : 0 ≤ x34_2
        ·rw [if_pos c27] at H;have c27b0 : decide (0 ≤ x34_2) = true:=decide_eq_true c27;clear c27
         by_cases c28 : x34_2 < (l0_1.length : Int)
         ·rw [if_pos c28] at H;have c28b0 : decide (x34_2 < (l0_1.length : Int)) = true:=decide_eq_true c28;clear c28;replace H:=Option.bind_eq_some_iff.mp H;obtain ⟨t283,A290,H⟩:=H;have A29:=Am A290;clear A290
          by_cases c30 : 6 + t283.size ≤ 9223372036854775807
          ·rw [if_pos c30] at H;have c30b0:=eq_true c30;have c30b1 : decide (6 + t283.size ≤ 9223372036854775807) = true:=decide_eq_true c30
           try have c30b2 : (9223372036854775807 < 6 + t283.size) = False:=eq_false (Nat.not_lt.2 c30)
           by_cases c31 : ((⟨#[108,105,109,105,116,32]⟩ : ByteArray) ++ t283).size + 1 ≤ 9223372036854775807
           ·rw [if_pos c31] at H;have c31b0:=eq_true c31;have c31b1 : decide (((⟨#[108,105,109,105,116,32]⟩ : ByteArray) ++ t283).size + 1 ≤ 9223372036854775807) = true:=decide_eq_true c31
            try have c31b2 : (9223372036854775807 < ((⟨#[108,105,109,105,116,32]⟩ : ByteArray) ++ t283).size + 1) = False:=eq_false (Nat.not_lt.2 c31)
            try have c31b3 : (9223372036854775807 < 6 + t283.size + 1) = False:=eq_false (Nat.not_lt.2 (by have h_:=c31;simp only [ByteArray.size_append] at h_;exact h_))
            replace H:=Option.bind_eq_some_iff.mp H;obtain ⟨t284,A320,H⟩:=H;have A32:=Am A320;clear A320
            by_cases c33 : (((⟨#[108,105,109,105,116,32]⟩ : ByteArray) ++ t283) ++ (⟨#[32]⟩ : ByteArray)).size + t284.size ≤ 9223372036854775807
            ·rw [if_pos c33] at H;have c33b0:=eq_true c33;have c33b1 : decide ((((⟨#[108,105,109,105,116,32]⟩ : ByteArray) ++ t283) ++ (⟨#[32]⟩ : ByteArray)).size + t284.size ≤ 9223372036854775807) = true:=decide_eq_true c33
             try have c33b2 : (9223372036854775807 < (((⟨#[108,105,109,105,116,32]⟩ : ByteArray) ++ t283) ++ (⟨#[32]⟩ : ByteArray)).size + t284.size) = False:=eq_false (Nat.not_lt.2 c33)
             try have c33b3 : (9223372036854775807 < 6 + t283.size + 1 + t284.size) = False:=eq_false (Nat.not_lt.2 (by have h_:=c33;simp only [ByteArray.size_append] at h_;exact h_))
             by_cases c34 : ((((⟨#[108,105,109,105,116,32]⟩ : ByteArray) ++ t283) ++ (⟨#[32]⟩ : ByteArray)) ++ t284).size + 1 ≤ 9223372036854775807
             ·rw [if_pos c34] at H;have c34b0:=eq_true c34;have c34b1 : decide (((((⟨#[108,105,109,105,116,32]⟩ : ByteArray) ++ t283) ++ (⟨#[32]⟩ : ByteArray)) ++ t284).size + 1 ≤ 9223372036854775807) = true:=decide_eq_true c34
              try have c34b2 : (9223372036854775807 < ((((⟨#[108,105,109,105,116,32]⟩ : ByteArray) ++ t283) ++ (⟨#[32]⟩ : ByteArray)) ++ t284).size + 1) = False:=eq_false (Nat.not_lt.2 c34)
              try have c34b3 : (9223372036854775807 < 6 + t283.size + 1 + t284.size + 1) = False:=eq_false (Nat.not_lt.2 (by have h_:=c34;simp only [ByteArray.size_append] at h_;exact h_))
              replace H:=Option.bind_eq_some_iff.mp H;obtain ⟨t285,A350,H⟩:=H;have A35:=Am A350;clear A350
              by_cases c36 : (((((⟨#[108,105,109,105,116,32]⟩ : ByteArray) ++ t283) ++ (⟨#[32]⟩ : ByteArray)) ++ t284) ++ (⟨#[32]⟩ : ByteArray)).size + t285.size ≤ 9223372036854775807
              ·rw [if_pos c36] at H;have c36b0:=eq_true c36;have c36b1 : decide ((((((⟨#[108,105,109,105,116,32]⟩ : ByteArray) ++ t283) ++ (⟨#[32]⟩ : ByteArray)) ++ t284) ++ (⟨#[32]⟩ : ByteArray)).size + t285.size ≤ 9223372036854775807) = true:=decide_eq_true c36
               try have c36b2 : (9223372036854775807 < (((((⟨#[108,105,109,105,116,32]⟩ : ByteArray) ++ t283) ++ (⟨#[32]⟩ : ByteArray)) ++ t284) ++ (⟨#[32]⟩ : ByteArray)).size + t285.size) = False:=eq_false (Nat.not_lt.2 c36)
               try have c36b3 : (9223372036854775807 < 6 + t283.size + 1 + t284.size + 1 + t285.size) = False:=eq_false (Nat.not_lt.2 (by have h_:=c36;simp only [ByteArray.size_append] at h_;exact h_))
               by_cases c37 : ((((((⟨#[108,105,109,105,116,32]⟩ : ByteArray) ++ t283) ++ (⟨#[32]⟩ : ByteArray)) ++ t284) ++ (⟨#[32]⟩ : ByteArray)) ++ t285).size + 1 ≤ 9223372036854775807
               ·rw [if_pos c37] at H;have c37b0:=eq_true c37;have c37b1 : decide (((((((⟨#[108,105,109,105,116,32]⟩ : ByteArray) ++ t283) ++ (⟨#[32]⟩ : ByteArray)) ++ t284) ++ (⟨#[32]⟩ : ByteArray)) ++ t285).size + 1 ≤ 9223372036854775807) = true:=decide_eq_true c37
                try have c37b2 : (9223372036854775807 < ((((((⟨#[108,105,109,105,116,32]⟩ : ByteArray) ++ t283) ++ (⟨#[32]⟩ : ByteArray)) ++ t284) ++ (⟨#[32]⟩ : ByteArray)) ++ t285).size + 1) = False:=eq_false (Nat.not_lt.2 c37)
                try have c37b3 : (9223372036854775807 < 6 + t283.size + 1 + t284.size + 1 + t285.size + 1) = False:=eq_false (Nat.not_lt.2 (by have h_:=c37;simp only [ByteArray.size_append] at h_;exact h_))
                by_cases c38 : x3_2.size + (((((((⟨#[108,105,109,105,116,32]⟩ : ByteArray) ++ t283) ++ (⟨#[32]⟩ : ByteArray)) ++ t284) ++ (⟨#[32]⟩ : ByteArray)) ++ t285) ++ (⟨#[10]⟩ : ByteArray)).size ≤ 9223372036854775807
                ·rw [if_pos c38] at H;have c38b0:=eq_true c38;have c38b1 : decide (x3_2.size + (((((((⟨#[108,105,109,105,116,32]⟩ : ByteArray) ++ t283) ++ (⟨#[32]⟩ : ByteArray)) ++ t284) ++ (⟨#[32]⟩ : ByteArray)) ++ t285) ++ (⟨#[10]⟩ : ByteArray)).size ≤ 9223372036854775807) = true:=decide_eq_true c38
                 try have c38b2 : (9223372036854775807 < x3_2.size + (((((((⟨#[108,105,109,105,116,32]⟩ : ByteArray) ++ t283) ++ (⟨#[32]⟩ : ByteArray)) ++ t284) ++ (⟨#[32]⟩ : ByteArray)) ++ t285) ++ (⟨#[10]⟩ : ByteArray)).size) = False:=eq_false (Nat.not_lt.2 c38)
                 try have c38b3 : (9223372036854775807 < x3_2.size + (6 + t283.size + 1 + t284.size + 1 + t285.size + 1)) = False:=eq_false (Nat.not_lt.2 (by have h_:=c38;simp only [ByteArray.size_append] at h_;exact h_))
                 have H':=Am H;clear H;have p281 : 0 ≤ (x34_2 : Int):=of_decide_eq_true (by first|(with_reducible assumption)|assumption);have q281 : x34_2 < (l0_1.length : Int):=of_decide_eq_true (by first|(with_reducible assumption)|assumption);obtain ⟨ad281,e281,hx281_0,hx281_1,hx281_2⟩:=at_T56 HR0_1.out x34_2 p281 q281;cases e281;replace hx281_0:=(HB.out.cell (World.block_lt_of_cell? w _ hx281_0)).trans hx281_0;replace hx281_1:=(HB.out.cell (World.block_lt_of_cell? w _ hx281_1)).trans hx281_1;replace hx281_2:=(HB.out.cell (World.block_lt_of_cell? w _ hx281_2)).trans hx281_2;replace p281:=eq_true p281;replace q281:=eq_true q281
                 try go_wp2_with (first|((with_reducible refine gate_dst (N:=7) rfl ?_);refine box_event ?hg (N:=7) ?hd (cs:=#[.int .i64 0,.int .i64 0,.int .i64 0]) (t:=56) ?hr ?_;(case hd => rfl);(case hg => rfl);(case hr => first|(go_simp;done)|(go_simp;rfl));intro gb282 hg w39 hbox hb;have n0_:=Am (kB_ BK275 hb);have n1_:=Am (below_step (bL HB) hb);have n2_:=Am (hbox);have n3_:=Am ((gS_ hg HB));have n4_:=Am ((gS_ hg HB));have n5_:=Am ((gM_ hg BK275));have n6_:=Am ((gN_ hg BK275));clear BK275;clear HB;have BK275:=n0_;have HB:=n1_;have BK282:=n2_;have GW282:=n3_;have GE282:=n4_;have NB275_282:=n5_;have NB282_275:=n6_;clear n0_ n1_ n2_ n3_ n4_ n5_ n6_;clear hb hbox hg;have hnb40:=NB282_275.out;have hnc40:=NB275_282.out;have hcz41_0:=cC_ BK282 0 rfl;have hcz41_1:=cC_ BK282 1 rfl;have hcz41_2:=cC_ BK282 2 rfl;have hfz41_0:=kF BK282.out 0;have hfz41_1:=kF BK282.out 1;have hfz41_2:=kF BK282.out 2))
                 have n0_ : As ((((w39.setCell ⟨gb282,0,none⟩ (.int .i64 ((rd_T56 l0_1 x34_2).f0))).setCell ⟨gb282,1,none⟩ (.int .i64 ((rd_T56 l0_1 x34_2).f1))).setCell ⟨gb282,2,none⟩ (.int .i64 ((rd_T56 l0_1 x34_2).f2))).heap[gb275]? = some (.cells #[.slice A0_0 l0_0.length c0_0,.slice (some ad281) l0_1.length c0_1,.int .i64 a0_2,.int .i64 a0_3,.int .i64 a0_4] 26 (0,0))):=⟨by (with_reducible repeat (first|refine kN ?_ _|refine kD ?_|refine kA ?_ _));refine blk_far ?_ NB275_282.out _;(with_reducible repeat (first|refine kN ?_ _|refine kD ?_|refine kA ?_ _));refine blk_far ?_ NB275_282.out _;(with_reducible repeat (first|refine kN ?_ _|refine kD ?_|refine kA ?_ _));refine blk_far ?_ NB275_282.out _;(with_reducible repeat (first|refine kN ?_ _|refine kD ?_|refine kA ?_ _));exact BK275.out⟩
                 have n1_ : As ((((w39.setCell ⟨gb282,0,none⟩ (.int .i64 ((rd_T56 l0_1 x34_2).f0))).setCell ⟨gb282,1,none⟩ (.int .i64 ((rd_T56 l0_1 x34_2).f1))).setCell ⟨gb282,2,none⟩ (.int .i64 ((rd_T56 l0_1 x34_2).f2))).heap[gb282]? = some (.cells #[.int .i64 ((rd_T56 l0_1 x34_2).f0),.int .i64 ((rd_T56 l0_1 x34_2).f1),.int .i64 ((rd_T56 l0_1 x34_2).f2)] 56 (0,0))):=⟨by (with_reducible repeat (first|refine kN ?_ _|refine kD ?_|refine kA ?_ _));refine blk_put (cs:=#[.int .i64 ((rd_T56 l0_1 x34_2).f0),.int .i64 ((rd_T56 l0_1 x34_2).f1),.int .i64 0]) ?_ 2 _ rfl;(with_reducible repeat (first|refine kN ?_ _|refine kD ?_|refine kA ?_ _));refine blk_put (cs:=#[.int .i64 ((rd_T56 l0_1 x34_2).f0),.int .i64 0,.int .i64 0]) ?_ 1 _ rfl;(with_reducible repeat (first|refine kN ?_ _|refine kD ?_|refine kA ?_ _));refine blk_put (cs:=#[.int .i64 0,.int .i64 0,.int .i64 0]) ?_ 0 _ rfl;(with_reducible repeat (first|refine kN ?_ _|refine kD ?_|refine kA ?_ _));exact BK282.out⟩
                 have n2_ : As (Below w.heap.size w (((w39.setCell ⟨gb282,0,none⟩ (.int .i64 ((rd_T56 l0_1 x34_2).f0))).setCell ⟨gb282,1,none⟩ (.int .i64 ((rd_T56 l0_1 x34_2).f1))).setCell ⟨gb282,2,none⟩ (.int .i64 ((rd_T56 l0_1 x34_2).f2)))):=⟨bL HB⟩
                 (try clear BK275);(try clear BK282);(try clear HB);generalize (((w39.setCell ⟨gb282,0,none⟩ (.int .i64 ((rd_T56 l0_1 x34_2).f0))).setCell ⟨gb282,1,none⟩ (.int .i64 ((rd_T56 l0_1 x34_2).f1))).setCell ⟨gb282,2,none⟩ (.int .i64 ((rd_T56 l0_1 x34_2).f2))) = w42 at n0_ n1_ n2_ ⊢;have BK275:=n0_;have BK282:=n1_;have HB:=n2_;clear n0_ n1_ n2_;have n0_:=Am (kD BK275.out);have n1_:=Am (kD BK282.out);have n2_:=Am (bD HB.out);clear BK275;clear BK282;clear HB;have BK275:=n0_;have BK282:=n1_;have HB:=n2_;clear n0_ n1_ n2_;refine start_ (n:=18) (S:=fun w' => w'.cell? ⟨gb282,0,none⟩ = some (.int .i64 ((rd_T56 l0_1 x34_2).f0))∧w'.cell? ⟨gb282,1,none⟩ = some (.int .i64 ((rd_T56 l0_1 x34_2).f1))∧w'.cell? ⟨gb282,2,none⟩ = some (.int .i64 ((rd_T56 l0_1 x34_2).f2))) (ds:=[]) #[false,false,false,false,false,false,false,false,false,false,false,false,false,false,false,false,false,false] (by kernel_rfl) rfl rfl ⟨cC_ BK282 0 rfl,cC_ BK282 1 rfl,cC_ BK282 2 rfl⟩ (fun hHeld => ?_);refine with_tabW spec_WriteProfile.tab12 spec_WriteProfile.bits12 (fun HT_ HW_ => ?_);generalize w42.drew = w43 at BK275 BK282 HB hHeld ⊢;refine pure_ (i:=0) (N:=some 38) (v:=?_) (a':=?_) #[true,false,false,false,false,false,false,false,false,false,false,false,false,false,false,false,false,false] rfl rfl (any_of HT_.out (by kernel_rfl)) (fun _ _ _ h => h) (Or.inl ⟨by rfl,?_⟩) ?_ ?_;rotate_left
                 ·intro w'
                  go_simp
                  with_reducible rfl
                 rotate_left
                 ·simp only [Act.put,pS]
                  rfl
                 refine pure_ (i:=1) (N:=some 39) (v:=?_) (a':=?_) #[true,true,false,false,false,false,false,false,false,false,false,false,false,false,false,false,false,false] rfl rfl (any_of HT_.out (by kernel_rfl)) (fun _ _ _ h => h) (Or.inl ⟨by rfl,?_⟩) ?_ ?_;rotate_left
                 ·intro w'
                  go_simp
                  with_reducible rfl
                 rotate_left
                 ·simp only [Act.put,pS]
                  rfl
                 refine pure_ (i:=6) (N:=some 44) (v:=?_) (a':=?_) #[true,true,false,false,false,false,true,false,false,false,false,false,false,false,false,false,false,false] rfl rfl (any_of HT_.out (by kernel_rfl)) (fun _ _ _ h => h) (Or.inl ⟨by rfl,?_⟩) ?_ ?_;rotate_left
                 ·intro w'
                  go_simp
                  with_reducible rfl
                 rotate_left
                 ·simp only [Act.put,pS]
                  rfl
                 refine pure_ (i:=11) (N:=some 49) (v:=?_) (a':=?_) #[true,true,false,false,false,false,true,false,false,false,false,true,false,false,false,false,false,false] rfl rfl (any_of HT_.out (by kernel_rfl)) (fun _ _ _ h => h) (Or.inl ⟨by rfl,?_⟩) ?_ ?_;rotate_left
                 ·intro w'
                  go_simp
                  with_reducible rfl
                 rotate_left
                 ·simp only [Act.put,pS]
                  rfl
                 refine take_ (i:=2) (N:=some 40) (v:=?_) (a':=?_) #[true,true,true,false,false,false,true,false,false,false,false,true,false,false,false,false,false,false] rfl rfl (take_ofW HT_.out HW_.out (by kernel_rfl)) (fun _ _ _ h => h) (Or.inl ⟨by rfl,?_⟩) hHeld ?_ ?_;rotate_left
                 ·rintro w' ⟨s0,s1,s2⟩
                  go_simp
                  with_reducible rfl
                 rotate_left
                 ·simp only [Act.put,pS]
                  rfl
                 refine take_ (i:=7) (N:=some 45) (v:=?_) (a':=?_) #[true,true,true,false,false,false,true,true,false,false,false,true,false,false,false,false,false,false] rfl rfl (take_ofW HT_.out HW_.out (by kernel_rfl)) (fun _ _ _ h => h) (Or.inl ⟨by rfl,?_⟩) hHeld ?_ ?_;rotate_left
                 ·rintro w' ⟨s0,s1,s2⟩
                  go_simp
                  with_reducible rfl
                 rotate_left
                 ·simp only [Act.put,pS]
                  rfl
                 refine take_ (i:=12) (N:=some 50) (v:=?_) (a':=?_) #[true,true,true,false,false,false,true,true,false,false,false,true,true,false,false,false,false,false] rfl rfl (take_ofW HT_.out HW_.out (by kernel_rfl)) (fun _ _ _ h => h) (Or.inl ⟨by rfl,?_⟩) hHeld ?_ ?_;rotate_left
                 ·rintro w' ⟨s0,s1,s2⟩
                  go_simp
                  with_reducible rfl
                 rotate_left
                 ·simp only [Act.put,pS]
                  rfl
                 refine one_ (i:=3) (N:=some 41) #[true,true,true,true,false,false,true,true,false,false,false,true,true,false,false,false,false,false] rfl rfl (one_of HT_.out (by kernel_rfl)) (by decide) (fun K hK => ?_);refine goes_ Tryd.func21 (by kernel_rfl) rfl #[.int .i64 ((rd_T56 l0_1 x34_2).f0)] (by rfl) rfl rfl lA ?_
                 with_reducible refine (spec_l5decimal.calls k2 ((rd_T56 l0_1 x34_2).f0) t283 _ A29.out).mono ?_
                 rintro e w44 ⟨rfl,hb⟩;refine ⟨_,rfl,?_⟩;have n0_:=Am (kB_ BK275 hb);have n1_:=Am (kB_ BK282 hb);have n2_:=Am (below_step (bL HB) hb);clear BK275;clear BK282;clear HB;have BK275:=n0_;have BK282:=n1_;have HB:=n2_;clear n0_ n1_ n2_;(try clear hb);(try clear hb2);(try clear hk);(try clear hi);refine hK.out _ _ ⟨cC_ BK282 0 rfl,cC_ BK282 1 rfl,cC_ BK282 2 rfl⟩ (fun hHeld => ?_);clear hK K;refine norm_ (a':=?_) ?_ ?_;rotate_left
                 ·show Act.put _ (some 41) _ = _
                  simp only [Act.put,pS]
                  rfl
                 refine pure_ (i:=4) (N:=some 42) (v:=?_) (a':=?_) #[true,true,true,true,true,false,true,true,false,false,false,true,true,false,false,false,false,false] rfl rfl (any_of HT_.out (by kernel_rfl)) (fun _ _ _ h => h) (Or.inl ⟨by rfl,?_⟩) ?_ ?_;rotate_left
                 ·intro w'
                  go_simp
                  with_reducible rfl
                 rotate_left
                 ·simp only [Act.put,pS]
                  rfl
                 refine pure_ (i:=5) (N:=some 43) (v:=?_) (a':=?_) #[true,true,true,true,true,true,true,true,false,false,false,true,true,false,false,false,false,false] rfl rfl (any_of HT_.out (by kernel_rfl)) (fun _ _ _ h => h) (Or.inl ⟨by rfl,?_⟩) ?_ ?_;rotate_left
                 ·intro w'
                  go_simp
                  with_reducible rfl
                 rotate_left
                 ·simp only [Act.put,pS]
                  rfl
                 refine one_ (i:=8) (N:=some 46) #[true,true,true,true,true,true,true,true,true,false,false,true,true,false,false,false,false,false] rfl rfl (one_of HT_.out (by kernel_rfl)) (by decide) (fun K hK => ?_);refine goes_ Tryd.func21 (by kernel_rfl) rfl #[.int .i64 ((rd_T56 l0_1 x34_2).f1)] (by rfl) rfl rfl lA ?_
                 with_reducible refine (spec_l5decimal.calls k2 ((rd_T56 l0_1 x34_2).f1) t284 _ A32.out).mono ?_
                 rintro e w45 ⟨rfl,hb⟩;refine ⟨_,rfl,?_⟩;have n0_:=Am (kB_ BK275 hb);have n1_:=Am (kB_ BK282 hb);have n2_:=Am (below_step (bL HB) hb);clear BK275;clear BK282;clear HB;have BK275:=n0_;have BK282:=n1_;have HB:=n2_;clear n0_ n1_ n2_;(try clear hb);(try clear hb2);(try clear hk);(try clear hi);refine hK.out _ _ ⟨cC_ BK282 0 rfl,cC_ BK282 1 rfl,cC_ BK282 2 rfl⟩ (fun hHeld => ?_);clear hK K;refine norm_ (a':=?_) ?_ ?_;rotate_left
                 ·show Act.put _ (some 46) _ = _
                  simp only [Act.put,pS]
                  rfl
                 refine pure_ (i:=9) (N:=some 47) (v:=?_) (a':=?_) #[true,true,true,true,true,true,true,true,true,true,false,true,true,false,false,false,false,false] rfl rfl (any_of HT_.out (by kernel_rfl)) (fun _ _ _ h => h) (Or.inl ⟨by rfl,?_⟩) ?_ ?_;rotate_left
                 ·intro w'
                  go_simp
                  with_reducible rfl
                 rotate_left
                 ·simp only [Act.put,pS]
                  rfl
                 refine pure_ (i:=10) (N:=some 48) (v:=?_) (a':=?_) #[true,true,true,true,true,true,true,true,true,true,true,true,true,false,false,false,false,false] rfl rfl (any_of HT_.out (by kernel_rfl)) (fun _ _ _ h => h) (Or.inl ⟨by rfl,?_⟩) ?_ ?_;rotate_left
                 ·intro w'
                  go_simp
                  with_reducible rfl
                 rotate_left
                 ·simp only [Act.put,pS]
                  rfl
                 refine one_ (i:=13) (N:=some 51) #[true,true,true,true,true,true,true,true,true,true,true,true,true,true,false,false,false,false] rfl rfl (one_of HT_.out (by kernel_rfl)) (by decide) (fun K hK => ?_);refine goes_ Tryd.func21 (by kernel_rfl) rfl #[.int .i64 ((rd_T56 l0_1 x34_2).f2)] (by rfl) rfl rfl lA ?_
                 with_reducible refine (spec_l5decimal.calls k2 ((rd_T56 l0_1 x34_2).f2) t285 _ A35.out).mono ?_
                 rintro e w46 ⟨rfl,hb⟩;refine ⟨_,rfl,?_⟩;have n0_:=Am (kB_ BK275 hb);have n1_:=Am (kB_ BK282 hb);have n2_:=Am (below_step (bL HB) hb);clear BK275;clear BK282;clear HB;have BK275:=n0_;have BK282:=n1_;have HB:=n2_;clear n0_ n1_ n2_;(try clear hb);(try clear hb2);(try clear hk);(try clear hi);refine hK.out _ _ ⟨cC_ BK282 0 rfl,cC_ BK282 1 rfl,cC_ BK282 2 rfl⟩ (fun hHeld => ?_);clear hK K;refine norm_ (a':=?_) ?_ ?_;rotate_left
                 ·show Act.put _ (some 51) _ = _
                  simp only [Act.put,pS]
                  rfl
                 refine pure_ (i:=14) (N:=some 52) (v:=?_) (a':=?_) #[true,true,true,true,true,true,true,true,true,true,true,true,true,true,true,false,false,false] rfl rfl (any_of HT_.out (by kernel_rfl)) (fun _ _ _ h => h) (Or.inl ⟨by rfl,?_⟩) ?_ ?_;rotate_left
                 ·intro w'
                  go_simp
                  with_reducible rfl
                 rotate_left
                 ·simp only [Act.put,pS]
                  rfl
                 refine pure_ (i:=15) (N:=some 53) (v:=?_) (a':=?_) #[true,true,true,true,true,true,true,true,true,true,true,true,true,true,true,true,false,false] rfl rfl (any_of HT_.out (by kernel_rfl)) (fun _ _ _ h => h) (Or.inl ⟨by rfl,?_⟩) ?_ ?_;rotate_left
                 ·intro w'
                  go_simp
                  with_reducible rfl
                 rotate_left
                 ·simp only [Act.put,pS]
                  rfl
                 refine pure_ (i:=16) (N:=some 54) (v:=?_) (a':=?_) #[true,true,true,true,true,true,true,true,true,true,true,true,true,true,true,true,true,false] rfl rfl (any_of HT_.out (by kernel_rfl)) (fun _ _ _ h => h) (Or.inl ⟨by rfl,?_⟩) ?_ ?_;rotate_left
                 ·intro w'
                  go_simp
                  with_reducible rfl
                 rotate_left
                 ·simp only [Act.put,pS]
                  rfl
                 refine pure_ (i:=17) (N:=some 3) (v:=?_) (a':=?_) #[true,true,true,true,true,true,true,true,true,true,true,true,true,true,true,true,true,true] rfl rfl (any_of HT_.out (by kernel_rfl)) (fun _ _ _ h => h) (Or.inl ⟨by rfl,?_⟩) ?_ ?_;rotate_left
                 ·intro w'
                  go_simp
                  with_reducible rfl
                 rotate_left
                 ·simp only [Act.put,pS]
                  rfl
                 refine done_ (done_of HT_.out (by kernel_rfl)) ?_
                 try go_wp2
                 go_roundg k2
                 case measure => have:=HK1.out;have:=HK2.out;omega
                 case rel => exact ⟨(x3_2 ++ (((((((⟨#[108,105,109,105,116,32]⟩ : ByteArray) ++ t283) ++ (⟨#[32]⟩ : ByteArray)) ++ t284) ++ (⟨#[32]⟩ : ByteArray)) ++ t285) ++ (⟨#[10]⟩ : ByteArray))),(wrap64 (x34_2 + 1)),vL_,vL_,H',⟨by have:=HK1.out;have:=HK2.out;omega⟩,⟨kL BK275⟩,⟨bL HB⟩⟩
                ·rw [if_neg c38] at H;exact absurd H (by simp)
               ·rw [if_neg c37] at H;exact absurd H (by simp)
              ·rw [if_neg c36] at H;exact absurd H (by simp)
             ·rw [if_neg c34] at H;exact absurd H (by simp)
            ·rw [if_neg c33] at H;exact absurd H (by simp)
           ·rw [if_neg c31] at H;exact absurd H (by simp)
          ·rw [if_neg c30] at H;exact absurd H (by simp)
         ·rw [if_neg c28] at H;exact absurd H (by simp)
        ·rw [if_neg c27] at H;exact absurd H (by simp)
       ·rw [if_neg c26] at H;have c26b0 : decide (x34_2 < (l0_1.length : Int)) = false:=decide_eq_false c26;clear c26;replace H:=Option.bind_eq_some_iff.mp H;obtain ⟨t286,A470,H⟩:=H;have A47:=Am A470;clear A470
        by_cases c48 : 6 + t286.size ≤ 9223372036854775807
        ·rw [if_pos c48] at H;have c48b0:=eq_true c48;have c48b1 : decide (6 + t286.size ≤ 9223372036854775807) = true:=decide_eq_true c48
         try have c48b2 : (9223372036854775807 < 6 + t286.size) = False:=eq_false (Nat.not_lt.2 c48)
         by_cases c49 : ((⟨#[116,114,97,105,110,32]⟩ : ByteArray) ++ t286).size + 5 ≤ 9223372036854775807
         ·rw [if_pos c49] at H;have c49b0:=eq_true c49;have c49b1 : decide (((⟨#[116,114,97,105,110,32]⟩ : ByteArray) ++ t286).size + 5 ≤ 9223372036854775807) = true:=decide_eq_true c49
          try have c49b2 : (9223372036854775807 < ((⟨#[116,114,97,105,110,32]⟩ : ByteArray) ++ t286).size + 5) = False:=eq_false (Nat.not_lt.2 c49)
          try have c49b3 : (9223372036854775807 < 6 + t286.size + 5) = False:=eq_false (Nat.not_lt.2 (by have h_:=c49;simp only [ByteArray.size_append] at h_;exact h_))
          replace H:=Option.bind_eq_some_iff.mp H;obtain ⟨t287,A500,H⟩:=H;have A50:=Am A500;clear A500
          by_cases c51 : (((⟨#[116,114,97,105,110,32]⟩ : ByteArray) ++ t286) ++ (⟨#[32,101,110,100,32]⟩ : ByteArray)).size + t287.size ≤ 9223372036854775807
          ·rw [if_pos c51] at H;have c51b0:=eq_true c51;have c51b1 : decide ((((⟨#[116,114,97,105,110,32]⟩ : ByteArray) ++ t286) ++ (⟨#[32,101,110,100,32]⟩ : ByteArray)).size + t287.size ≤ 9223372036854775807) = true:=decide_eq_true c51
           try have c51b2 : (9223372036854775807 < (((⟨#[116,114,97,105,110,32]⟩ : ByteArray) ++ t286) ++ (⟨#[32,101,110,100,32]⟩ : ByteArray)).size + t287.size) = False:=eq_false (Nat.not_lt.2 c51)
           try have c51b3 : (9223372036854775807 < 6 + t286.size + 5 + t287.size) = False:=eq_false (Nat.not_lt.2 (by have h_:=c51;simp only [ByteArray.size_append] at h_;exact h_))
           by_cases c52 : ((((⟨#[116,114,97,105,110,32]⟩ : ByteArray) ++ t286) ++ (⟨#[32,101,110,100,32]⟩ : ByteArray)) ++ t287).size + 7 ≤ 9223372036854775807
           ·rw [if_pos c52] at H;have c52b0:=eq_true c52;have c52b1 : decide (((((⟨#[116,114,97,105,110,32]⟩ : ByteArray) ++ t286) ++ (⟨#[32,101,110,100,32]⟩ : ByteArray)) ++ t287).size + 7 ≤ 9223372036854775807) = true:=decide_eq_true c52
            try have c52b2 : (9223372036854775807 < ((((⟨#[116,114,97,105,110,32]⟩ : ByteArray) ++ t286) ++ (⟨#[32,101,110,100,32]⟩ : ByteArray)) ++ t287).size + 7) = False:=eq_false (Nat.not_lt.2 c52)
            try have c52b3 : (9223372036854775807 < 6 + t286.size + 5 + t287.size + 7) = False:=eq_false (Nat.not_lt.2 (by have h_:=c52;simp only [ByteArray.size_append] at h_;exact h_))
            replace H:=Option.bind_eq_some_iff.mp H;obtain ⟨t288,A530,H⟩:=H;have A53:=Am A530;clear A530
            by_cases c54 : (((((⟨#[116,114,97,105,110,32]⟩ : ByteArray) ++ t286) ++ (⟨#[32,101,110,100,32]⟩ : ByteArray)) ++ t287) ++ (⟨#[32,100,101,108,97,121,32]⟩ : ByteArray)).size + t288.size ≤ 9223372036854775807
            ·rw [if_pos c54] at H;have c54b0:=eq_true c54;have c54b1 : decide ((((((⟨#[116,114,97,105,110,32]⟩ : ByteArray) ++ t286) ++ (⟨#[32,101,110,100,32]⟩ : ByteArray)) ++ t287) ++ (⟨#[32,100,101,108,97,121,32]⟩ : ByteArray)).size + t288.size ≤ 9223372036854775807) = true:=decide_eq_true c54
             try have c54b2 : (9223372036854775807 < (((((⟨#[116,114,97,105,110,32]⟩ : ByteArray) ++ t286) ++ (⟨#[32,101,110,100,32]⟩ : ByteArray)) ++ t287) ++ (⟨#[32,100,101,108,97,121,32]⟩ : ByteArray)).size + t288.size) = False:=eq_false (Nat.not_lt.2 c54)
             try have c54b3 : (9223372036854775807 < 6 + t286.size + 5 + t287.size + 7 + t288.size) = False:=eq_false (Nat.not_lt.2 (by have h_:=c54;simp only [ByteArray.size_append] at h_;exact h_))
             by_cases c55 : ((((((⟨#[116,114,97,105,110,32]⟩ : ByteArray) ++ t286) ++ (⟨#[32,101,110,100,32]⟩ : ByteArray)) ++ t287) ++ (⟨#[32,100,101,108,97,121,32]⟩ : ByteArray)) ++ t288).size + 1 ≤ 9223372036854775807
             ·rw [if_pos c55] at H;have c55b0:=eq_true c55;have c55b1 : decide (((((((⟨#[116,114,97,105,110,32]⟩ : ByteArray) ++ t286) ++ (⟨#[32,101,110,100,32]⟩ : ByteArray)) ++ t287) ++ (⟨#[32,100,101,108,97,121,32]⟩ : ByteArray)) ++ t288).size + 1 ≤ 9223372036854775807) = true:=decide_eq_true c55
              try have c55b2 : (9223372036854775807 < ((((((⟨#[116,114,97,105,110,32]⟩ : ByteArray) ++ t286) ++ (⟨#[32,101,110,100,32]⟩ : ByteArray)) ++ t287) ++ (⟨#[32,100,101,108,97,121,32]⟩ : ByteArray)) ++ t288).size + 1) = False:=eq_false (Nat.not_lt.2 c55)
              try have c55b3 : (9223372036854775807 < 6 + t286.size + 5 + t287.size + 7 + t288.size + 1) = False:=eq_false (Nat.not_lt.2 (by have h_:=c55;simp only [ByteArray.size_append] at h_;exact h_))
              by_cases c56 : x3_2.size + (((((((⟨#[116,114,97,105,110,32]⟩ : ByteArray) ++ t286) ++ (⟨#[32,101,110,100,32]⟩ : ByteArray)) ++ t287) ++ (⟨#[32,100,101,108,97,121,32]⟩ : ByteArray)) ++ t288) ++ (⟨#[10]⟩ : ByteArray)).size ≤ 9223372036854775807
              ·rw [if_pos c56] at H;have c56b0:=eq_true c56;have c56b1 : decide (x3_2.size + (((((((⟨#[116,114,97,105,110,32]⟩ : ByteArray) ++ t286) ++ (⟨#[32,101,110,100,32]⟩ : ByteArray)) ++ t287) ++ (⟨#[32,100,101,108,97,121,32]⟩ : ByteArray)) ++ t288) ++ (⟨#[10]⟩ : ByteArray)).size ≤ 9223372036854775807) = true:=decide_eq_true c56
               try have c56b2 : (9223372036854775807 < x3_2.size + (((((((⟨#[116,114,97,105,110,32]⟩ : ByteArray) ++ t286) ++ (⟨#[32,101,110,100,32]⟩ : ByteArray)) ++ t287) ++ (⟨#[32,100,101,108,97,121,32]⟩ : ByteArray)) ++ t288) ++ (⟨#[10]⟩ : ByteArray)).size) = False:=eq_false (Nat.not_lt.2 c56)
               try have c56b3 : (9223372036854775807 < x3_2.size + (6 + t286.size + 5 + t287.size + 7 + t288.size + 1)) = False:=eq_false (Nat.not_lt.2 (by have h_:=c56;simp only [ByteArray.size_append] at h_;exact h_))
               by_cases c57 : ((x3_2 ++ (((((((⟨#[116,114,97,105,110,32]⟩ : ByteArray) ++ t286) ++ (⟨#[32,101,110,100,32]⟩ : ByteArray)) ++ t287) ++ (⟨#[32,100,101,108,97,121,32]⟩ : ByteArray)) ++ t288) ++ (⟨#[10]⟩ : ByteArray))).size : Int) > 3000
               ·rw [if_pos c57] at H;have c57b0 : decide (3000 < ((x3_2 ++ (((((((⟨#[116,114,97,105,110,32]⟩ : ByteArray) ++ t286) ++ (⟨#[32,101,110,100,32]⟩ : ByteArray)) ++ t287) ++ (⟨#[32,100,101,108,97,121,32]⟩ : ByteArray)) ++ t288) ++ (⟨#[10]⟩ : ByteArray))).size : Int)) = true:=decide_eq_true c57;have c57b3 : decide (3000 < (x3_2.size : Int) + (6 + (t286.size : Int) + 5 + (t287.size : Int) + 7 + (t288.size : Int) + 1)) = true:=decide_eq_true (by have h_:=c57;simp only [ByteArray.size_append] at h_;have h2_ : ((x3_2.size + (6 + t286.size + 5 + t287.size + 7 + t288.size + 1) : Nat) : Int) > 3000:=h_;omega);have c57b1 : decide (3000 < (x3_2 ++ (((((((⟨#[116,114,97,105,110,32]⟩ : ByteArray) ++ t286) ++ (⟨#[32,101,110,100,32]⟩ : ByteArray)) ++ t287) ++ (⟨#[32,100,101,108,97,121,32]⟩ : ByteArray)) ++ t288) ++ (⟨#[10]⟩ : ByteArray))).size) = true:=decide_eq_true (by omega);clear c57;obtain rfl:=Option.some.inj H
                try go_wp2
                have n0_:=Am (kD BK275.out);have n1_:=Am (bD HB.out);clear BK275;clear HB;have BK275:=n0_;have HB:=n1_;clear n0_ n1_;refine start_ (n:=18) (S:=fun w' => w'.cell? ⟨gb275,0,none⟩ = some (.slice A0_0 l0_0.length c0_0)∧w'.cell? ⟨gb275,1,none⟩ = some (.slice A0_1 l0_1.length c0_1)∧w'.cell? ⟨gb275,2,none⟩ = some (.int .i64 a0_2)∧w'.cell? ⟨gb275,3,none⟩ = some (.int .i64 a0_3)∧w'.cell? ⟨gb275,4,none⟩ = some (.int .i64 a0_4)) (ds:=[]) #[false,false,false,false,false,false,false,false,false,false,false,false,false,false,false,false,false,false] (by kernel_rfl) rfl rfl ⟨cC_ BK275 0 rfl,cC_ BK275 1 rfl,cC_ BK275 2 rfl,cC_ BK275 3 rfl,cC_ BK275 4 rfl⟩ (fun hHeld => ?_);refine with_tabW spec_WriteProfile.tab14 spec_WriteProfile.bits14 (fun HT_ HW_ => ?_);generalize wr.drew = w58 at BK275 HB hHeld ⊢;refine pure_ (i:=0) (N:=some 56) (v:=?_) (a':=?_) #[true,false,false,false,false,false,false,false,false,false,false,false,false,false,false,false,false,false] rfl rfl (any_of HT_.out (by kernel_rfl)) (fun _ _ _ h => h) (Or.inl ⟨by rfl,?_⟩) ?_ ?_;rotate_left
                ·intro w'
                 go_simp
                 with_reducible rfl
                rotate_left
                ·simp only [Act.put,pS]
                 rfl
                refine pure_ (i:=1) (N:=some 57) (v:=?_) (a':=?_) #[true,true,false,false,false,false,false,false,false,false,false,false,false,false,false,false,false,false] rfl rfl (any_of HT_.out (by kernel_rfl)) (fun _ _ _ h => h) (Or.inl ⟨by rfl,?_⟩) ?_ ?_;rotate_left
                ·intro w'
                 go_simp
                 with_reducible rfl
                rotate_left
                ·simp only [Act.put,pS]
                 rfl
                refine pure_ (i:=6) (N:=some 62) (v:=?_) (a':=?_) #[true,true,false,false,false,false,true,false,false,false,false,false,false,false,false,false,false,false] rfl rfl (any_of HT_.out (by kernel_rfl)) (fun _ _ _ h => h) (Or.inl ⟨by rfl,?_⟩) ?_ ?_;rotate_left
                ·intro w'
                 go_simp
                 with_reducible rfl
                rotate_left
                ·simp only [Act.put,pS]
                 rfl
                refine pure_ (i:=11) (N:=some 67) (v:=?_) (a':=?_) #[true,true,false,false,false,false,true,false,false,false,false,true,false,false,false,false,false,false] rfl rfl (any_of HT_.out (by kernel_rfl)) (fun _ _ _ h => h) (Or.inl ⟨by rfl,?_⟩) ?_ ?_;rotate_left
                ·intro w'
                 go_simp
                 with_reducible rfl
                rotate_left
                ·simp only [Act.put,pS]
                 rfl
                refine take_ (i:=2) (N:=some 58) (v:=?_) (a':=?_) #[true,true,true,false,false,false,true,false,false,false,false,true,false,false,false,false,false,false] rfl rfl (take_ofW HT_.out HW_.out (by kernel_rfl)) (fun _ _ _ h => h) (Or.inl ⟨by rfl,?_⟩) hHeld ?_ ?_;rotate_left
                ·rintro w' ⟨s0,s1,s2,s3,s4⟩
                 go_simp
                 with_reducible rfl
                rotate_left
                ·simp only [Act.put,pS]
                 rfl
                refine take_ (i:=7) (N:=some 63) (v:=?_) (a':=?_) #[true,true,true,false,false,false,true,true,false,false,false,true,false,false,false,false,false,false] rfl rfl (take_ofW HT_.out HW_.out (by kernel_rfl)) (fun _ _ _ h => h) (Or.inl ⟨by rfl,?_⟩) hHeld ?_ ?_;rotate_left
                ·rintro w' ⟨s0,s1,s2,s3,s4⟩
                 go_simp
                 with_reducible rfl
                rotate_left
                ·simp only [Act.put,pS]
                 rfl
                refine take_ (i:=12) (N:=some 68) (v:=?_) (a':=?_) #[true,true,true,false,false,false,true,true,false,false,false,true,true,false,false,false,false,false] rfl rfl (take_ofW HT_.out HW_.out (by kernel_rfl)) (fun _ _ _ h => h) (Or.inl ⟨by rfl,?_⟩) hHeld ?_ ?_;rotate_left
                ·rintro w' ⟨s0,s1,s2,s3,s4⟩
                 go_simp
                 with_reducible rfl
                rotate_left
                ·simp only [Act.put,pS]
                 rfl
                refine one_ (i:=3) (N:=some 59) #[true,true,true,true,false,false,true,true,false,false,false,true,true,false,false,false,false,false] rfl rfl (one_of HT_.out (by kernel_rfl)) (by decide) (fun K hK => ?_);refine goes_ Tryd.func21 (by kernel_rfl) rfl #[.int .i64 a0_2] (by rfl) rfl rfl lA ?_
                with_reducible refine (spec_l5decimal.calls k2 a0_2 t286 _ A47.out).mono ?_
                rintro e w59 ⟨rfl,hb⟩;refine ⟨_,rfl,?_⟩;have n0_:=Am (kB_ BK275 hb);have n1_:=Am (below_step (bL HB) hb);clear BK275;clear HB;have BK275:=n0_;have HB:=n1_;clear n0_ n1_;(try clear hb);(try clear hb2);(try clear hk);(try clear hi);refine hK.out _ _ ⟨cC_ BK275 0 rfl,cC_ BK275 1 rfl,cC_ BK275 2 rfl,cC_ BK275 3 rfl,cC_ BK275 4 rfl⟩ (fun hHeld => ?_);clear hK K;refine norm_ (a':=?_) ?_ ?_;rotate_left
                ·show Act.put _ (some 59) _ = _
                 simp only [Act.put,pS]
                 rfl
                refine pure_ (i:=4) (N:=some 60) (v:=?_) (a':=?_) #[true,true,true,true,true,false,true,true,false,false,false,true,true,false,false,false,false,false] rfl rfl (any_of HT_.out (by kernel_rfl)) (fun _ _ _ h => h) (Or.inl ⟨by rfl,?_⟩) ?_ ?_;rotate_left
                ·intro w'
                 go_simp
                 with_reducible rfl
                rotate_left
                ·simp only [Act.put,pS]
                 rfl
                refine pure_ (i:=5) (N:=some 61) (v:=?_) (a':=?_) #[true,true,true,true,true,true,true,true,false,false,false,true,true,false,false,false,false,false] rfl rfl (any_of HT_.out (by kernel_rfl)) (fun _ _ _ h => h) (Or.inl ⟨by rfl,?_⟩) ?_ ?_;rotate_left
                ·intro w'
                 go_simp
                 with_reducible rfl
                rotate_left
                ·simp only [Act.put,pS]
                 rfl
                refine one_ (i:=8) (N:=some 64) #[true,true,true,true,true,true,true,true,true,false,false,true,true,false,false,false,false,false] rfl rfl (one_of HT_.out (by kernel_rfl)) (by decide) (fun K hK => ?_);refine goes_ Tryd.func21 (by kernel_rfl) rfl #[.int .i64 a0_3] (by rfl) rfl rfl lA ?_
                with_reducible refine (spec_l5decimal.calls k2 a0_3 t287 _ A50.out).mono ?_
                rintro e w60 ⟨rfl,hb⟩;refine ⟨_,rfl,?_⟩;have n0_:=Am (kB_ BK275 hb);have n1_:=Am (below_step (bL HB) hb);clear BK275;clear HB;have BK275:=n0_;have HB:=n1_;clear n0_ n1_;(try clear hb);(try clear hb2);(try clear hk);(try clear hi);refine hK.out _ _ ⟨cC_ BK275 0 rfl,cC_ BK275 1 rfl,cC_ BK275 2 rfl,cC_ BK275 3 rfl,cC_ BK275 4 rfl⟩ (fun hHeld => ?_);clear hK K;refine norm_ (a':=?_) ?_ ?_;rotate_left
                ·show Act.put _ (some 64) _ = _
                 simp only [Act.put,pS]
                 rfl
                refine pure_ (i:=9) (N:=some 65) (v:=?_) (a':=?_) #[true,true,true,true,true,true,true,true,true,true,false,true,true,false,false,false,false,false] rfl rfl (any_of HT_.out (by kernel_rfl)) (fun _ _ _ h => h) (Or.inl ⟨by rfl,?_⟩) ?_ ?_;rotate_left
                ·intro w'
                 go_simp
                 with_reducible rfl
                rotate_left
                ·simp only [Act.put,pS]
                 rfl
                refine pure_ (i:=10) (N:=some 66) (v:=?_) (a':=?_) #[true,true,true,true,true,true,true,true,true,true,true,true,true,false,false,false,false,false] rfl rfl (any_of HT_.out (by kernel_rfl)) (fun _ _ _ h => h) (Or.inl ⟨by rfl,?_⟩) ?_ ?_;rotate_left
                ·intro w'
                 go_simp
                 with_reducible rfl
                rotate_left
                ·simp only [Act.put,pS]
                 rfl
                refine one_ (i:=13) (N:=some 69) #[true,true,true,true,true,true,true,true,true,true,true,true,true,true,false,false,false,false] rfl rfl (one_of HT_.out (by kernel_rfl)) (by decide) (fun K hK => ?_);refine goes_ Tryd.func21 (by kernel_rfl) rfl #[.int .i64 a0_4] (by rfl) rfl rfl lA ?_
                with_reducible refine (spec_l5decimal.calls k2 a0_4 t288 _ A53.out).mono ?_
                rintro e w61 ⟨rfl,hb⟩;refine ⟨_,rfl,?_⟩;have n0_:=Am (kB_ BK275 hb);have n1_:=Am (below_step (bL HB) hb);clear BK275;clear HB;have BK275:=n0_;have HB:=n1_;clear n0_ n1_;(try clear hb);(try clear hb2);(try clear hk);(try clear hi);refine hK.out _ _ ⟨cC_ BK275 0 rfl,cC_ BK275 1 rfl,cC_ BK275 2 rfl,cC_ BK275 3 rfl,cC_ BK275 4 rfl⟩ (fun hHeld => ?_);clear hK K;refine norm_ (a':=?_) ?_ ?_;rotate_left
                ·show Act.put _ (some 69) _ = _
                 simp only [Act.put,pS]
                 rfl
                refine pure_ (i:=14) (N:=some 70) (v:=?_) (a':=?_) #[true,true,true,true,true,true,true,true,true,true,true,true,true,true,true,false,false,false] rfl rfl (any_of HT_.out (by kernel_rfl)) (fun _ _ _ h => h) (Or.inl ⟨by rfl,?_⟩) ?_ ?_;rotate_left
                ·intro w'
                 go_simp
                 with_reducible rfl
                rotate_left
                ·simp only [Act.put,pS]
                 rfl
                refine pure_ (i:=15) (N:=some 71) (v:=?_) (a':=?_) #[true,true,true,true,true,true,true,true,true,true,true,true,true,true,true,true,false,false] rfl rfl (any_of HT_.out (by kernel_rfl)) (fun _ _ _ h => h) (Or.inl ⟨by rfl,?_⟩) ?_ ?_;rotate_left
                ·intro w'
                 go_simp
                 with_reducible rfl
                rotate_left
                ·simp only [Act.put,pS]
                 rfl
                refine pure_ (i:=16) (N:=some 72) (v:=?_) (a':=?_) #[true,true,true,true,true,true,true,true,true,true,true,true,true,true,true,true,true,false] rfl rfl (any_of HT_.out (by kernel_rfl)) (fun _ _ _ h => h) (Or.inl ⟨by rfl,?_⟩) ?_ ?_;rotate_left
                ·intro w'
                 go_simp
                 with_reducible rfl
                rotate_left
                ·simp only [Act.put,pS]
                 rfl
                refine pure_ (i:=17) (N:=some 3) (v:=?_) (a':=?_) #[true,true,true,true,true,true,true,true,true,true,true,true,true,true,true,true,true,true] rfl rfl (any_of HT_.out (by kernel_rfl)) (fun _ _ _ h => h) (Or.inl ⟨by rfl,?_⟩) ?_ ?_;rotate_left
                ·intro w'
                 go_simp
                 with_reducible rfl
                rotate_left
                ·simp only [Act.put,pS]
                 rfl
                refine done_ (done_of HT_.out (by kernel_rfl)) ?_
                try go_wp2
                go_ret;exact ⟨eL_,bL HB⟩
               ·rw [if_neg c57] at H;have c57b0 : decide (3000 < ((x3_2 ++ (((((((⟨#[116,114,97,105,110,32]⟩ : ByteArray) ++ t286) ++ (⟨#[32,101,110,100,32]⟩ : ByteArray)) ++ t287) ++ (⟨#[32,100,101,108,97,121,32]⟩ : ByteArray)) ++ t288) ++ (⟨#[10]⟩ : ByteArray))).size : Int)) = false:=decide_eq_false c57;have c57b3 : decide (3000 < (x3_2.size : Int) + (6 + (t286.size : Int) + 5 + (t287.size : Int) + 7 + (t288.size : Int) + 1)) = false:=decide_eq_false (by have h_:=c57;simp only [ByteArray.size_append] at h_;have h2_ : ¬ ((x3_2.size + (6 + t286.size + 5 + t287.size + 7 + t288.size + 1) : Nat) : Int) > 3000:=h_;omega);have c57b1 : decide (3000 < (x3_2 ++ (((((((⟨#[116,114,97,105,110,32]⟩ : ByteArray) ++ t286) ++ (⟨#[32,101,110,100,32]⟩ : ByteArray)) ++ t287) ++ (⟨#[32,100,101,108,97,121,32]⟩ : ByteArray)) ++ t288) ++ (⟨#[10]⟩ : ByteArray))).size) = false:=decide_eq_false (by omega);clear c57;obtain rfl:=Option.some.inj H
                try go_wp2
                have n0_:=Am (kD BK275.out);have n1_:=Am (bD HB.out);clear BK275;clear HB;have BK275:=n0_;have HB:=n1_;clear n0_ n1_;refine start_ (n:=18) (S:=fun w' => w'.cell? ⟨gb275,0,none⟩ = some (.slice A0_0 l0_0.length c0_0)∧w'.cell? ⟨gb275,1,none⟩ = some (.slice A0_1 l0_1.length c0_1)∧w'.cell? ⟨gb275,2,none⟩ = some (.int .i64 a0_2)∧w'.cell? ⟨gb275,3,none⟩ = some (.int .i64 a0_3)∧w'.cell? ⟨gb275,4,none⟩ = some (.int .i64 a0_4)) (ds:=[]) #[false,false,false,false,false,false,false,false,false,false,false,false,false,false,false,false,false,false] (by kernel_rfl) rfl rfl ⟨cC_ BK275 0 rfl,cC_ BK275 1 rfl,cC_ BK275 2 rfl,cC_ BK275 3 rfl,cC_ BK275 4 rfl⟩ (fun hHeld => ?_);refine with_tabW spec_WriteProfile.tab14 spec_WriteProfile.bits14 (fun HT_ HW_ => ?_);generalize wr.drew = w62 at BK275 HB hHeld ⊢;refine pure_ (i:=0) (N:=some 56) (v:=?_) (a':=?_) #[true,false,false,false,false,false,false,false,false,false,false,false,false,false,false,false,false,false] rfl rfl (any_of HT_.out (by kernel_rfl)) (fun _ _ _ h => h) (Or.inl ⟨by rfl,?_⟩) ?_ ?_;rotate_left
                ·intro w'
                 go_simp
                 with_reducible rfl
                rotate_left
                ·simp only [Act.put,pS]
                 rfl
                refine pure_ (i:=1) (N:=some 57) (v:=?_) (a':=?_) #[true,true,false,false,false,false,false,false,false,false,false,false,false,false,false,false,false,false] rfl rfl (any_of HT_.out (by kernel_rfl)) (fun _ _ _ h => h) (Or.inl ⟨by rfl,?_⟩) ?_ ?_;rotate_left
                ·intro w'
                 go_simp
                 with_reducible rfl
                rotate_left
                ·simp only [Act.put,pS]
                 rfl
                refine pure_ (i:=6) (N:=some 62) (v:=?_) (a':=?_) #[true,true,false,false,false,false,true,false,false,false,false,false,false,false,false,false,false,false] rfl rfl (any_of HT_.out (by kernel_rfl)) (fun _ _ _ h => h) (Or.inl ⟨by rfl,?_⟩) ?_ ?_;rotate_left
                ·intro w'
                 go_simp
                 with_reducible rfl
                rotate_left
                ·simp only [Act.put,pS]
                 rfl
                refine pure_ (i:=11) (N:=some 67) (v:=?_) (a':=?_) #[true,true,false,false,false,false,true,false,false,false,false,true,false,false,false,false,false,false] rfl rfl (any_of HT_.out (by kernel_rfl)) (fun _ _ _ h => h) (Or.inl ⟨by rfl,?_⟩) ?_ ?_;rotate_left
                ·intro w'
                 go_simp
                 with_reducible rfl
                rotate_left
                ·simp only [Act.put,pS]
                 rfl
                refine take_ (i:=2) (N:=some 58) (v:=?_) (a':=?_) #[true,true,true,false,false,false,true,false,false,false,false,true,false,false,false,false,false,false] rfl rfl (take_ofW HT_.out HW_.out (by kernel_rfl)) (fun _ _ _ h => h) (Or.inl ⟨by rfl,?_⟩) hHeld ?_ ?_;rotate_left
                ·rintro w' ⟨s0,s1,s2,s3,s4⟩
                 go_simp
                 with_reducible rfl
                rotate_left
                ·simp only [Act.put,pS]
                 rfl
                refine take_ (i:=7) (N:=some 63) (v:=?_) (a':=?_) #[true,true,true,false,false,false,true,true,false,false,false,true,false,false,false,false,false,false] rfl rfl (take_ofW HT_.out HW_.out (by kernel_rfl)) (fun _ _ _ h => h) (Or.inl ⟨by rfl,?_⟩) hHeld ?_ ?_;rotate_left
                ·rintro w' ⟨s0,s1,s2,s3,s4⟩
                 go_simp
                 with_reducible rfl
                rotate_left
                ·simp only [Act.put,pS]
                 rfl
                refine take_ (i:=12) (N:=some 68) (v:=?_) (a':=?_) #[true,true,true,false,false,false,true,true,false,false,false,true,true,false,false,false,false,false] rfl rfl (take_ofW HT_.out HW_.out (by kernel_rfl)) (fun _ _ _ h => h) (Or.inl ⟨by rfl,?_⟩) hHeld ?_ ?_;rotate_left
                ·rintro w' ⟨s0,s1,s2,s3,s4⟩
                 go_simp
                 with_reducible rfl
                rotate_left
                ·simp only [Act.put,pS]
                 rfl
                refine one_ (i:=3) (N:=some 59) #[true,true,true,true,false,false,true,true,false,false,false,true,true,false,false,false,false,false] rfl rfl (one_of HT_.out (by kernel_rfl)) (by decide) (fun K hK => ?_);refine goes_ Tryd.func21 (by kernel_rfl) rfl #[.int .i64 a0_2] (by rfl) rfl rfl lA ?_
                with_reducible refine (spec_l5decimal.calls k2 a0_2 t286 _ A47.out).mono ?_
                rintro e w63 ⟨rfl,hb⟩;refine ⟨_,rfl,?_⟩;have n0_:=Am (kB_ BK275 hb);have n1_:=Am (below_step (bL HB) hb);clear BK275;clear HB;have BK275:=n0_;have HB:=n1_;clear n0_ n1_;(try clear hb);(try clear hb2);(try clear hk);(try clear hi);refine hK.out _ _ ⟨cC_ BK275 0 rfl,cC_ BK275 1 rfl,cC_ BK275 2 rfl,cC_ BK275 3 rfl,cC_ BK275 4 rfl⟩ (fun hHeld => ?_);clear hK K;refine norm_ (a':=?_) ?_ ?_;rotate_left
                ·show Act.put _ (some 59) _ = _
                 simp only [Act.put,pS]
                 rfl
                refine pure_ (i:=4) (N:=some 60) (v:=?_) (a':=?_) #[true,true,true,true,true,false,true,true,false,false,false,true,true,false,false,false,false,false] rfl rfl (any_of HT_.out (by kernel_rfl)) (fun _ _ _ h => h) (Or.inl ⟨by rfl,?_⟩) ?_ ?_;rotate_left
                ·intro w'
                 go_simp
                 with_reducible rfl
                rotate_left
                ·simp only [Act.put,pS]
                 rfl
                refine pure_ (i:=5) (N:=some 61) (v:=?_) (a':=?_) #[true,true,true,true,true,true,true,true,false,false,false,true,true,false,false,false,false,false] rfl rfl (any_of HT_.out (by kernel_rfl)) (fun _ _ _ h => h) (Or.inl ⟨by rfl,?_⟩) ?_ ?_;rotate_left
                ·intro w'
                 go_simp
                 with_reducible rfl
                rotate_left
                ·simp only [Act.put,pS]
                 rfl
                refine one_ (i:=8) (N:=some 64) #[true,true,true,true,true,true,true,true,true,false,false,true,true,false,false,false,false,false] rfl rfl (one_of HT_.out (by kernel_rfl)) (by decide) (fun K hK => ?_);refine goes_ Tryd.func21 (by kernel_rfl) rfl #[.int .i64 a0_3] (by rfl) rfl rfl lA ?_
                with_reducible refine (spec_l5decimal.calls k2 a0_3 t287 _ A50.out).mono ?_
                rintro e w64 ⟨rfl,hb⟩;refine ⟨_,rfl,?_⟩;have n0_:=Am (kB_ BK275 hb);have n1_:=Am (below_step (bL HB) hb);clear BK275;clear HB;have BK275:=n0_;have HB:=n1_;clear n0_ n1_;(try clear hb);(try clear hb2);(try clear hk);(try clear hi);refine hK.out _ _ ⟨cC_ BK275 0 rfl,cC_ BK275 1 rfl,cC_ BK275 2 rfl,cC_ BK275 3 rfl,cC_ BK275 4 rfl⟩ (fun hHeld => ?_);clear hK K;refine norm_ (a':=?_) ?_ ?_;rotate_left
                ·show Act.put _ (some 64) _ = _
                 simp only [Act.put,pS]
                 rfl
                refine pure_ (i:=9) (N:=some 65) (v:=?_) (a':=?_) #[true,true,true,true,true,true,true,true,true,true,false,true,true,false,false,false,false,false] rfl rfl (any_of HT_.out (by kernel_rfl)) (fun _ _ _ h => h) (Or.inl ⟨by rfl,?_⟩) ?_ ?_;rotate_left
                ·intro w'
                 go_simp
                 with_reducible rfl
                rotate_left
                ·simp only [Act.put,pS]
                 rfl
                refine pure_ (i:=10) (N:=some 66) (v:=?_) (a':=?_) #[true,true,true,true,true,true,true,true,true,true,true,true,true,false,false,false,false,false] rfl rfl (any_of HT_.out (by kernel_rfl)) (fun _ _ _ h => h) (Or.inl ⟨by rfl,?_⟩) ?_ ?_;rotate_left
                ·intro w'
                 go_simp
                 with_reducible rfl
                rotate_left
                ·simp only [Act.put,pS]
                 rfl
                refine one_ (i:=13) (N:=some 69) #[true,true,true,true,true,true,true,true,true,true,true,true,true,true,false,false,false,false] rfl rfl (one_of HT_.out (by kernel_rfl)) (by decide) (fun K hK => ?_);refine goes_ Tryd.func21 (by kernel_rfl) rfl #[.int .i64 a0_4] (by rfl) rfl rfl lA ?_
                with_reducible refine (spec_l5decimal.calls k2 a0_4 t288 _ A53.out).mono ?_
                rintro e w65 ⟨rfl,hb⟩;refine ⟨_,rfl,?_⟩;have n0_:=Am (kB_ BK275 hb);have n1_:=Am (below_step (bL HB) hb);clear BK275;clear HB;have BK275:=n0_;have HB:=n1_;clear n0_ n1_;(try clear hb);(try clear hb2);(try clear hk);(try clear hi);refine hK.out _ _ ⟨cC_ BK275 0 rfl,cC_ BK275 1 rfl,cC_ BK275 2 rfl,cC_ BK275 3 rfl,cC_ BK275 4 rfl⟩ (fun hHeld => ?_);clear hK K;refine norm_ (a':=?_) ?_ ?_;rotate_left
                ·show Act.put _ (some 69) _ = _
                 simp only [Act.put,pS]
                 rfl
                refine pure_ (i:=14) (N:=some 70) (v:=?_) (a':=?_) #[true,true,true,true,true,true,true,true,true,true,true,true,true,true,true,false,false,false] rfl rfl (any_of HT_.out (by kernel_rfl)) (fun _ _ _ h => h) (Or.inl ⟨by rfl,?_⟩) ?_ ?_;rotate_left
                ·intro w'
                 go_simp
                 with_reducible rfl
                rotate_left
                ·simp only [Act.put,pS]
                 rfl
                refine pure_ (i:=15) (N:=some 71) (v:=?_) (a':=?_) #[true,true,true,true,true,true,true,true,true,true,true,true,true,true,true,true,false,false] rfl rfl (any_of HT_.out (by kernel_rfl)) (fun _ _ _ h => h) (Or.inl ⟨by rfl,?_⟩) ?_ ?_;rotate_left
                ·intro w'
                 go_simp
                 with_reducible rfl
                rotate_left
                ·simp only [Act.put,pS]
                 rfl
                refine pure_ (i:=16) (N:=some 72) (v:=?_) (a':=?_) #[true,true,true,true,true,true,true,true,true,true,true,true,true,true,true,true,true,false] rfl rfl (any_of HT_.out (by kernel_rfl)) (fun _ _ _ h => h) (Or.inl ⟨by rfl,?_⟩) ?_ ?_;rotate_left
                ·intro w'
                 go_simp
                 with_reducible rfl
                rotate_left
                ·simp only [Act.put,pS]
                 rfl
                refine pure_ (i:=17) (N:=some 3) (v:=?_) (a':=?_) #[true,true,true,true,true,true,true,true,true,true,true,true,true,true,true,true,true,true] rfl rfl (any_of HT_.out (by kernel_rfl)) (fun _ _ _ h => h) (Or.inl ⟨by rfl,?_⟩) ?_ ?_;rotate_left
                ·intro w'
                 go_simp
                 with_reducible rfl
                rotate_left
                ·simp only [Act.put,pS]
                 rfl
                refine done_ (done_of HT_.out (by kernel_rfl)) ?_
                try go_wp2
                go_ret;exact ⟨eL_,bL HB⟩
              ·rw [if_neg c56] at H;exact absurd H (by simp)
             ·rw [if_neg c55] at H;exact absurd H (by simp)
            ·rw [if_neg c54] at H;exact absurd H (by simp)
           ·rw [if_neg c52] at H;exact absurd H (by simp)
          ·rw [if_neg c51] at H;exact absurd H (by simp)
         ·rw [if_neg c49] at H;exact absurd H (by simp)
        ·rw [if_neg c48] at H;exact absurd H (by simp)
 ·rw [if_neg c3] at H;have c3b0 : (t276 == 0) = false:=beq_eq_false_iff_ne.mpr c3;have c3b1 : (t276 != 0) = true:=bne_iff_ne.mpr c3;obtain rfl:=Option.some.inj H
  go_enter Tryd.func6,Tryd.ntmps6
  go_wp2_with (first|((with_reducible refine gate_dst (N:=1) rfl ?_);refine box_event ?hg (N:=1) ?hd (cs:=#[.slice A0_0 l0_0.length c0_0,.slice A0_1 l0_1.length c0_1,.int .i64 a0_2,.int .i64 a0_3,.int .i64 a0_4]) (t:=26) ?hr ?_;(case hd => rfl);(case hg => rfl);(case hr => first|(go_simp;done)|(go_simp;rfl));intro gb275 hg w66 hbox hb;have n0_:=Am (below_step (bL HB) hb);have n1_:=Am (hbox);have n2_:=Am ((gS_ hg HB));have n3_:=Am ((gS_ hg HB));clear HB;have HB:=n0_;have BK275:=n1_;have GW275:=n2_;have GE275:=n3_;clear n0_ n1_ n2_ n3_;clear hb hbox hg;have hcz67_0:=cC_ BK275 0 rfl;have hcz67_1:=cC_ BK275 1 rfl;have hcz67_2:=cC_ BK275 2 rfl;have hcz67_3:=cC_ BK275 3 rfl;have hcz67_4:=cC_ BK275 4 rfl;have hfz67_0:=kF BK275.out 0;have hfz67_1:=kF BK275.out 1;have hfz67_2:=kF BK275.out 2;have hfz67_3:=kF BK275.out 3;have hfz67_4:=kF BK275.out 4)|((with_reducible refine gate_callee (f:=20) rfl ?_);refine goesL_ (some 9) rfl rfl Tryd.func20 (by kernel_rfl) rfl #[.agg #[.slice A0_0 l0_0.length c0_0,.slice A0_1 l0_1.length c0_1,.int .i64 a0_2,.int .i64 a0_3,.int .i64 a0_4]] rfl lA ?_;(with_reducible refine (spec_ProfileOk.calls k _ _ l0_0 _ _ l0_1 a0_2 a0_3 a0_4 t276 _ ?side1 ?side2 ?side3 ?side4 A2.out).mono ?_);(case side1 => exact cL_ HR0_0 HB);(case side2 => exact HC0_0.out);(case side3 => exact cL_ HR0_1 HB);(case side4 => exact HC0_1.out);rintro e w68 ⟨rfl,hb⟩;refine ⟨_,rfl,?_⟩;have n0_:=Am (kB_ BK275 hb);have n1_:=Am (below_step (bL HB) hb);clear BK275;clear HB;have BK275:=n0_;have HB:=n1_;clear n0_ n1_;(try clear hb);(try clear hb2);(try clear hk);(try clear hi)))
  go_ret;exact ⟨eL_,bL HB⟩

end Go.Proofs.YtanjbdgmnecacaaDoor.PT
