-- Written by a program of this session (wip/print/myprint.py) over the kit's print, with contracts of its own; not a text of print.sh's.
import Derived.Test.YtanjbdgmnecacaaDoorPTx0
namespace Go.Proofs.YtanjbdgmnecacaaDoor.PT
open Go.RowKit Go.Proofs.YtanjbdgmnecacaaDoorW.PrintWords Go.Proofs.YtanjbdgmnecacaaDoorW.PrintLast Go.Proofs.YtanjbdgmnecacaaDoorW.PrintMore
attribute [local go_sem] max2_int min2_int max_two min_two   -- for this text's walks alone
set_option linter.unusedVariables false
set_option linter.unusedSimpArgs false

/-! ### spec_l5decimal: function 21 -/
def spec_l5decimal.l0 : Nat → Int → ByteArray → Option (ByteArray)
 | 0,_,_ => none
 | k + 1,x0,x3 => if x0 > 0 then ((some (([(wrap64 (48 + (Int.tmod x0 10))) % 256] : List Int) : List Int)).bind fun y272 => (if (strOfNums y272).size + x3.size ≤ 9223372036854775807 then (spec_l5decimal.l0 k (wrap64 (Int.tdiv x0 10)) ((strOfNums y272) ++ x3)) else (none))) else (some x3)
def spec_l5decimal.f (k : Nat) (a0 : Int) : Option (ByteArray):=if a0 = 0 then (some (⟨#[48]⟩ : ByteArray)) else (spec_l5decimal.l0 k a0 (⟨#[]⟩ : ByteArray))
theorem spec_l5decimal.mono_l : ∀ k,(∀ y0 y1,LeO (spec_l5decimal.l0 k y0 y1) (spec_l5decimal.l0 (k + 1) y0 y1))
 | 0 => fun _ _ r h => by simp [spec_l5decimal.l0] at h
 | k + 1 => by
  have ih0:=spec_l5decimal.mono_l k
  ·intro y0 y1;unfold spec_l5decimal.l0
   repeat' first
   | (with_reducible exact ih0 _ _)
   | (with_reducible exact LeO.refl _)
   | (with_reducible exact LeO.none _)
   | (with_reducible refine LeO.ite ?_ ?_)
   | (with_reducible refine LeO.bind ?_ (fun _ => ?_))
   | exact ih0 _ _
   | exact LeO.none _
   | refine LeO.ite ?_ ?_
   | refine LeO.bind ?_ (fun _ => ?_)
theorem spec_l5decimal.mono : ∀ a0 k,LeO (spec_l5decimal.f k a0) (spec_l5decimal.f (k + 1) a0):=by
 intro a0 k;have ih0:=spec_l5decimal.mono_l k;unfold spec_l5decimal.f
 repeat' first
   | (with_reducible exact ih0 _ _)
   | (with_reducible exact LeO.refl _)
   | (with_reducible exact LeO.none _)
   | (with_reducible refine LeO.ite ?_ ?_)
   | (with_reducible refine LeO.bind ?_ (fun _ => ?_))
   | exact ih0 _ _
   | exact LeO.none _
   | refine LeO.ite ?_ ?_
   | refine LeO.bind ?_ (fun _ => ?_)
set_option maxHeartbeats 8000000 in
set_option maxRecDepth 100000 in
theorem spec_l5decimal.calls (k : Nat) (a0 : Int) (r : ByteArray) (w : World) (h : spec_l5decimal.f k a0 = some r) :
  Calls Tryd.prog 21 #[.int .i64 a0] w fun e w' => e = .returned (.string r)∧Below w.heap.size w w':=by
 have HB:=Am (Below.refl w.heap.size w);have H : (if a0 = 0 then (some (⟨#[48]⟩ : ByteArray)) else (spec_l5decimal.l0 k a0 (⟨#[]⟩ : ByteArray))) = some r:=h;clear h
 by_cases c2 : a0 = 0
 ·rw [if_pos c2] at H;have c2b0 : (a0 == 0) = true:=beq_iff_eq.mpr c2;have c2b1 : (a0 != 0) = false:=bne_eq_false_iff_eq.mpr c2;clear c2;obtain rfl:=Option.some.inj H
  go_enter Tryd.func21,Tryd.ntmps21
  go_wp2;go_ret;exact ⟨eL_,bL HB⟩
 ·rw [if_neg c2] at H;have c2b0 : (a0 == 0) = false:=beq_eq_false_iff_ne.mpr c2;have c2b1 : (a0 != 0) = true:=bne_iff_ne.mpr c2;have H':=Am H;clear H
  go_enter Tryd.func21,Tryd.ntmps21
  go_wp2
  go_loopg [0,3] k (fun kq v0 v3 w' => ∃ (x0_1 : Int) (x3_1 : ByteArray),v0 = .int .i64 x0_1∧v3 = .string x3_1∧As (spec_l5decimal.l0 kq x0_1 x3_1 = some r)∧As (kq ≤ k)∧As (Below w.heap.size w w'))
  case atStart => exact ⟨(a0),((⟨#[]⟩ : ByteArray)),vL_,vL_,H',⟨Nat.le_refl _⟩,⟨bL HB⟩⟩
  case round =>
   clear H';(try clear c2);(try clear c2b0);(try clear c2b1);(try clear p2);obtain ⟨x0_1,x3_1,rfl,rfl,HA,HK1,HB⟩:=hrel
   cases gk with
   | zero => exact absurd HA.out (by simp [spec_l5decimal.l0])
   | succ k1 =>
    have H:=HA.out;clear HA;simp only [spec_l5decimal.l0] at H
    by_cases c3 : x0_1 > 0
    ·rw [if_pos c3] at H;have c3b0 : decide (0 < x0_1) = true:=decide_eq_true c3;clear c3
     obtain ⟨y272,hy272⟩ : ∃ y_ : List Int,y_ = (([(wrap64 (48 + (Int.tmod x0_1 10))) % 256] : List Int)):=⟨_,rfl⟩
     replace H : (if (strOfNums y272).size + x3_1.size ≤ 9223372036854775807 then (spec_l5decimal.l0 k1 (wrap64 (Int.tdiv x0_1 10)) ((strOfNums y272) ++ x3_1)) else (none)) = some r:=by first|(rw [hy272];with_reducible exact H)|(have H2_:=(Option.bind_some _ _).symm.trans H;rw [hy272];with_reducible exact H2_)|(have H2_:=(Option.bind_some _ _).symm.trans H;with_reducible exact H2_)|with_reducible exact H|(rw [hy272];exact H)|exact H
     have Ny272:=Am hy272;clear hy272
     by_cases c4 : (strOfNums y272).size + x3_1.size ≤ 9223372036854775807
     ·rw [if_pos c4] at H;have c4b0:=eq_true c4;have c4b1 : decide ((strOfNums y272).size + x3_1.size ≤ 9223372036854775807) = true:=decide_eq_true c4
      try have c4b2 : (9223372036854775807 < (strOfNums y272).size + x3_1.size) = False:=eq_false (Nat.not_lt.2 c4)
      have H':=Am H;clear H
      go_wp2_with (first|((with_reducible refine gate_dst (N:=12) rfl ?_);refine Kd.R_lit (Kd.int .u8) _ 5 ?hg (N:=12) ?hd (xs:=([(wrap64 (48 + (Int.tmod x0_1 10))) % 256] : List Int)) (inner:=[.int .u8 ((wrap64 (48 + (Int.tmod x0_1 10))) % 256)]) (ok:=fun _ => True) (okp:=fun _ => True) ?hr ?hp (fun _ hk => hk) trivial (Below.refl _ _) (Nat.le_refl _) (by simp) ?_;(case hd => rfl);(case hg => rfl);(case hr => first|(go_simp;done)|(go_simp;rfl));(case hp => exact (Reps.one (show Kd.M (Kd.int .u8) _ _ _ ((wrap64 (48 + (Int.tmod x0_1 10))) % 256) [.int .u8 ((wrap64 (48 + (Int.tmod x0_1 10))) % 256)] from rfl) (Reps.none _ _)));intro v273 w5 ho6 hb hg_ hnew_;clear hg_ hnew_;(first|rw [← Ny272.out] at ho6|(simp only [Int.reduceToNat] at ho6;rw [← Ny272.out] at ho6));have n0_:=Am (Kd.R_lower ho6 (below_size (bL HB)));have n1_:=Am (below_step (bL HB) hb);clear HB;have HO274:=n0_;have HB:=n1_;clear n0_ n1_;clear hb ho6;have hcv7:=own_string (P:=Tryd.prog) Tryd.underlying22 Tryd.underlying5 Tryd.underlying9 (Kd.own_of_R HO274.out)))
      go_roundg k1
      case measure => have:=HK1.out;omega
      case rel => exact ⟨(wrap64 (Int.tdiv x0_1 10)),((strOfNums y272) ++ x3_1),vL_,vL_,H',⟨by have:=HK1.out;omega⟩,⟨bL HB⟩⟩
     ·rw [if_neg c4] at H;exact absurd H (by simp)
    ·rw [if_neg c3] at H;have c3b0 : decide (0 < x0_1) = false:=decide_eq_false c3;clear c3;obtain rfl:=Option.some.inj H;go_wp2;go_ret;exact ⟨eL_,bL HB⟩

end Go.Proofs.YtanjbdgmnecacaaDoor.PT
