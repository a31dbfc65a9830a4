-- Written by a program of this session (wip/print/myprint.py) over the kit's print, with contracts of its own; not a text of print.sh's.
import Derived.Test.YtanjbdgmnecacaaDoorPTx0
import Derived.Test.YtanjbdgmnecacaaDoorPTx9
namespace Go.Proofs.YtanjbdgmnecacaaDoor.PT
open Go.RowKit Go.Proofs.YtanjbdgmnecacaaDoorW.PrintWords Go.Proofs.YtanjbdgmnecacaaDoorW.PrintLast Go.Proofs.YtanjbdgmnecacaaDoorW.PrintMore
attribute [local go_sem] max2_int min2_int max_two min_two   -- for this text's walks alone
set_option linter.unusedVariables false
set_option linter.unusedSimpArgs false

/-! ### impl_ProfileOk: function 15 -/
/-- a piece that is refused -/
def pk_bad (x : S49) : Bool:=!(decide (1 ≤ x.f0) && decide (x.f0 ≤ 1666666) && decide (10 ≤ x.f1) && decide (x.f1 ≤ 1000))
/-- a place -/
def inB (n x : Int) : Bool:=decide (0 ≤ x) && decide (x ≤ n)
/-- a zone that is refused -/
def zn_bad (n : Int) (z : S56) : Bool:=!(inB n z.f0 && inB n z.f1 && decide (z.f0 ≤ z.f1) && decide (1 ≤ z.f2) && decide (z.f2 ≤ 10000))
def tot : List S49 → Int
 | [] => 0
 | x :: l => x.f0 + tot l
def pokV (ps : List S49) (zs : List S56) (tr en de : Int) : Int :=
 if ps.length = 0 ∨ 60 < ps.length ∨ 60 < zs.length then 1
 else if ps.any pk_bad = true then 2
 else if zs.any (zn_bad (tot ps)) = true then 3
 else if ¬ (0 ≤ tr∧tr ≤ 100000000) then 4
 else if ¬ (0 ≤ en∧en ≤ tot ps) then 5
 else if ¬ (0 ≤ de∧de ≤ 20) then 6 else 0
def impl_ProfileOk.f (l0_0 : List S49) (l0_1 : List S56) (a0_2 : Int) (a0_3 : Int) (a0_4 : Int) : Option Int:=some (pokV l0_0 l0_1 a0_2 a0_3 a0_4)

def HeadBad (b : Bool) (p z : Nat) : Prop:=b = true ↔ (p = 0 ∨ 60 < p ∨ 60 < z)
theorem ret_i {a b : Int} (h : a = b) : Ending.returned (.int .i64 a) = .returned (.int .i64 b):=by rw [h]
theorem getD_mem {α : Type} (l : List α) (i : Nat) (d : α) (h : i < l.length) : l.getD i d ∈ l:=by
 rw [List.getD_eq_getElem?_getD,List.getElem?_eq_getElem h];exact List.getElem_mem _
theorem take_snoc_getD {α : Type} (l : List α) (i : Nat) (d : α) (h : i < l.length) : l.take (i + 1) = l.take i ++ [l.getD i d]:=by
 rw [List.getD_eq_getElem?_getD,List.getElem?_eq_getElem h,List.take_succ_eq_append_getElem h];rfl
theorem tot_append (a b : List S49) : tot (a ++ b) = tot a + tot b:=by
 induction a with
 | nil => simp [tot]
 | cons x a ih => simp [tot,ih];omega
theorem pok1 {ps : List S49} {zs : List S56} {tr en de : Int} (h : ps.length = 0 ∨ 60 < ps.length ∨ 60 < zs.length) : pokV ps zs tr en de = 1:=by
 unfold pokV;rw [if_pos h]
theorem pok2 {ps : List S49} {zs : List S56} {tr en de : Int} (h : ¬ (ps.length = 0 ∨ 60 < ps.length ∨ 60 < zs.length)) {x : S49} (hx : x ∈ ps) (hb : pk_bad x = true) : pokV ps zs tr en de = 2:=by
 unfold pokV;rw [if_neg h,if_pos (List.any_eq_true.mpr ⟨x,hx,hb⟩)]
theorem any_no {α : Type} {l : List α} {f : α → Bool} (h : ∀ y ∈ l,f y = false) : ¬ l.any f = true:=by
 intro k;obtain ⟨x,hx,hf⟩:=List.any_eq_true.mp k;rw [h x hx] at hf;cases hf
theorem pok3 {ps : List S49} {zs : List S56} {tr en de : Int} (h : ¬ (ps.length = 0 ∨ 60 < ps.length ∨ 60 < zs.length)) (hp : ∀ y ∈ ps,pk_bad y = false) {z : S56} (hz : z ∈ zs) (hb : zn_bad (tot ps) z = true) : pokV ps zs tr en de = 3:=by
 unfold pokV;rw [if_neg h,if_neg (any_no hp),if_pos (List.any_eq_true.mpr ⟨z,hz,hb⟩)]
theorem pokn {ps : List S49} {zs : List S56} {tr en de : Int} (h : ¬ (ps.length = 0 ∨ 60 < ps.length ∨ 60 < zs.length)) (hp : ∀ y ∈ ps,pk_bad y = false) (hz : ∀ y ∈ zs,zn_bad (tot ps) y = false) :
  pokV ps zs tr en de = if ¬ (0 ≤ tr∧tr ≤ 100000000) then 4 else if ¬ (0 ≤ en∧en ≤ tot ps) then 5 else if ¬ (0 ≤ de∧de ≤ 20) then 6 else 0:=by
 unfold pokV;rw [if_neg h,if_neg (any_no hp),if_neg (any_no hz)]
set_option maxHeartbeats 8000000 in
theorem impl_place.calls (g : Nat) (n x : Int) (b : Bool) (w : World) (hc : w.cell? ⟨g,0,none⟩ = some (.int .i64 n)) (hb : inB n x = b) :
  Calls Tryd.prog 30 #[.int .i64 x,.pointer (some ⟨g,0,none⟩)] w fun e w' => e = .returned (.bool b)∧Drawn0 w w':=by
 by_cases c : 0 ≤ x
 ·have c1 : decide (0 ≤ x) = true:=decide_eq_true c
  have hb2 : decide (x ≤ n) = b:=by rw [← hb];simp [inB,c]
  have HB2:=Am hb2;clear hb hb2 c
  go_enter Tryd.func30,Tryd.ntmps30
  go_wp2;go_ret;exact ⟨by show Ending.returned (Value.bool (decide (x ≤ n))) = .returned (.bool b);rw [HB2.out],by repeat (first|exact Drawn0.refl _|apply Drawn0.step)⟩
 ·have c1 : decide (0 ≤ x) = false:=decide_eq_false c
  obtain rfl : b = false:=by rw [← hb];simp [inB];omega
  clear hb c
  go_enter Tryd.func30,Tryd.ntmps30
  go_wp2;go_ret;exact ⟨by rfl,by repeat (first|exact Drawn0.refl _|apply Drawn0.step)⟩

set_option maxHeartbeats 8000000 in
set_option maxRecDepth 100000 in
theorem impl_ProfileOk.calls (A0_0 : Option Addr) (c0_0 : Nat) (l0_0 : List (S49)) (A0_1 : Option Addr) (c0_1 : Nat) (l0_1 : List (S56)) (a0_2 : Int) (a0_3 : Int) (a0_4 : Int) (r : Int) (w : World) (hr0_0 : Kd.C k49 w A0_0 l0_0.length l0_0) (hc0_0 : l0_0.length ≤ c0_0) (hr0_1 : Kd.C k56 w A0_1 l0_1.length l0_1) (hc0_1 : l0_1.length ≤ c0_1) (h : impl_ProfileOk.f l0_0 l0_1 a0_2 a0_3 a0_4 = some r) :
  Calls Tryd.prog 15 #[.agg #[.slice A0_0 l0_0.length c0_0,.slice A0_1 l0_1.length c0_1,.int .i64 a0_2,.int .i64 a0_3,.int .i64 a0_4]] w fun e w' => e = .returned (.int .i64 r)∧Below w.heap.size w w':=by
 have hu26:=Tryd.underlying26;have hu49:=Tryd.underlying49;have hu56:=Tryd.underlying56;have HR0_0:=Am hr0_0;have HC0_0:=Am hc0_0;clear hr0_0 hc0_0;have HR0_1:=Am hr0_1;have HC0_1:=Am hc0_1;clear hr0_1 hc0_1;have HB:=Am (Below.refl w.heap.size w);have HV:=Am (Option.some.inj h : pokV l0_0 l0_1 a0_2 a0_3 a0_4 = r);clear h
 go_enter Tryd.func15,Tryd.ntmps15
 go_upto_region 1 with (first|((with_reducible refine gate_dst (N:=1) rfl ?_);(try (refine gate_guard (by rfl) ?_;dsimp only));refine box_event ?hg (N:=1) ?hd (cs:=#[.slice A0_0 l0_0.length c0_0,.slice A0_1 l0_1.length c0_1,.int .i64 a0_2,.int .i64 a0_3,.int .i64 a0_4]) (t:=26) ?hr ?_;(case hd => rfl);(case hg => rfl);(case hr => first|(go_simp;done)|(go_simp;rfl));intro gP hg wP hbox hb;have n0_:=Am (below_step (bL HB) hb);have n1_:=Am (hbox);have n2_:=Am ((gS_ hg HB));clear HB;have HB:=n0_;have BKP:=n1_;have GEP:=n2_;clear n0_ n1_ n2_;clear hb hbox hg))
 (try simp only [Act.put,List.setIfInBounds_toArray,List.set_cons_zero,List.set_cons_succ])
 go_cut [24] (fun v24 wc => ∃ (bq : Bool),v24 = .bool bq∧As (HeadBad bq l0_0.length l0_1.length)∧As (wc.heap[gP]? = some (.cells #[.slice A0_0 l0_0.length c0_0,.slice A0_1 l0_1.length c0_1,.int .i64 a0_2,.int .i64 a0_3,.int .i64 a0_4] 26 (0,0)))∧As (Below w.heap.size w wc))
 case first =>
  by_cases c4 : l0_0.length = 0
  ·have K4:=Am c4;have c4b0 : ((l0_0.length : Int) == 0) = true:=beq_iff_eq.mpr (by omega);have c4b1 : (l0_0.length == 0) = true:=beq_iff_eq.mpr (by omega);clear c4;have hcP0:=cC_ BKP 0 rfl;have hfP0:=kF BKP.out 0;have hcP1:=cC_ BKP 1 rfl;have hfP1:=kF BKP.out 1;have hcP2:=cC_ BKP 2 rfl;have hfP2:=kF BKP.out 2;have hcP3:=cC_ BKP 3 rfl;have hfP3:=kF BKP.out 3;have hcP4:=cC_ BKP 4 rfl;have hfP4:=kF BKP.out 4;go_wp2
   go_meet
   case rel => exact ⟨true,vL_,⟨⟨fun _ => .inl K4.out,fun _ => rfl⟩⟩,⟨kL BKP⟩,⟨bL HB⟩⟩
  ·have K4:=Am c4;have c4b0 : ((l0_0.length : Int) == 0) = false:=beq_eq_false_iff_ne.mpr (by omega);have c4b1 : (l0_0.length == 0) = false:=beq_eq_false_iff_ne.mpr (by omega)
   have c4b2 : ¬ (l0_0 = []):=fun h_ => c4 (by rw [h_];rfl)
   clear c4
   by_cases c6 : 60 < l0_0.length
   ·have K6:=Am c6;have c6b0 : decide (60 < (l0_0.length : Int)) = true:=decide_eq_true (by omega);have c6b1 : decide (60 < l0_0.length) = true:=decide_eq_true (by omega);clear c6;have hcP0:=cC_ BKP 0 rfl;have hfP0:=kF BKP.out 0;have hcP1:=cC_ BKP 1 rfl;have hfP1:=kF BKP.out 1;have hcP2:=cC_ BKP 2 rfl;have hfP2:=kF BKP.out 2;have hcP3:=cC_ BKP 3 rfl;have hfP3:=kF BKP.out 3;have hcP4:=cC_ BKP 4 rfl;have hfP4:=kF BKP.out 4;go_wp2
    go_meet
    case rel => exact ⟨true,vL_,⟨⟨fun _ => .inr (.inl K6.out),fun _ => rfl⟩⟩,⟨kL BKP⟩,⟨bL HB⟩⟩
   ·have K6:=Am c6;have c6b0 : decide (60 < (l0_0.length : Int)) = false:=decide_eq_false (by omega);have c6b1 : decide (60 < l0_0.length) = false:=decide_eq_false (by omega);clear c6;have hcP0:=cC_ BKP 0 rfl;have hfP0:=kF BKP.out 0;have hcP1:=cC_ BKP 1 rfl;have hfP1:=kF BKP.out 1;have hcP2:=cC_ BKP 2 rfl;have hfP2:=kF BKP.out 2;have hcP3:=cC_ BKP 3 rfl;have hfP3:=kF BKP.out 3;have hcP4:=cC_ BKP 4 rfl;have hfP4:=kF BKP.out 4;go_wp2
    go_meet
    case rel => exact ⟨decide ((l0_1.length : Int) > 60),vL_,⟨⟨fun h => .inr (.inr (by have:=of_decide_eq_true h;omega)),fun h => decide_eq_true (by have:=K4.out;have:=K6.out;omega)⟩⟩,⟨kL BKP⟩,⟨bL HB⟩⟩
 case rest =>
  obtain ⟨bq,rfl,HQ,BKP,HB⟩:=hcut
  cases bq with
  | true =>
   go_wp2;go_ret;exact ⟨ret_i (a:=1) (by rw [← HV.out,pok1 (HQ.out.mp rfl)]),bL HB⟩
  | false =>
   have HN:=Am (show ¬ (l0_0.length = 0 ∨ 60 < l0_0.length ∨ 60 < l0_1.length) from fun z => by have:=HQ.out.mpr z;cases this);clear HQ;have hcP0:=cC_ BKP 0 rfl;have hfP0:=kF BKP.out 0;have hcP1:=cC_ BKP 1 rfl;have hfP1:=kF BKP.out 1;have hcP2:=cC_ BKP 2 rfl;have hfP2:=kF BKP.out 2;have hcP3:=cC_ BKP 3 rfl;have hfP3:=kF BKP.out 3;have hcP4:=cC_ BKP 4 rfl;have hfP4:=kF BKP.out 4
   go_wp2_with (first|((with_reducible refine gate_dst (N:=3) rfl ?_);(try (refine gate_guard (by rfl) ?_;dsimp only));refine box_event ?hg (N:=3) ?hd (cs:=#[.int .i64 0]) (t:=3) ?hr ?_;(case hd => rfl);(case hg => rfl);(case hr => first|(go_simp;done)|(go_simp;rfl));intro gN hg wN hbox hb;have n0_:=Am (kB_ BKP hb);have n1_:=Am (below_step (bL HB) hb);have n2_:=Am (hbox);have n3_:=Am ((gS_ hg HB));have n4_:=Am ((gM_ hg BKP));have n5_:=Am ((gN_ hg BKP));clear BKP;clear HB;have BKP:=n0_;have HB:=n1_;have BKN:=n2_;have GEN:=n3_;have NP_N:=n4_;have NN_P:=n5_;clear n0_ n1_ n2_ n3_ n4_ n5_;clear hb hbox hg;have hnP_N:=NP_N.out;have hnN_P:=NN_P.out;have hcN0:=cC_ BKN 0 rfl;have hfN0:=kF BKN.out 0;clear hcP0 hfP0 hcP1 hfP1 hcP2 hfP2 hcP3 hfP3 hcP4 hfP4;have hcP0:=cC_ BKP 0 rfl;have hfP0:=kF BKP.out 0;have hcP1:=cC_ BKP 1 rfl;have hfP1:=kF BKP.out 1;have hcP2:=cC_ BKP 2 rfl;have hfP2:=kF BKP.out 2;have hcP3:=cC_ BKP 3 rfl;have hfP3:=kF BKP.out 3;have hcP4:=cC_ BKP 4 rfl;have hfP4:=kF BKP.out 4))
   go_loopg [28] l0_0.length (fun kq v28 w' => ∃ (ix : Int) (nsum : Int),v28 = .int .i64 ix∧As (0 ≤ ix)∧As (ix + kq = l0_0.length)∧As (∀ y ∈ l0_0.take ix.toNat,pk_bad y = false)∧As (nsum = tot (l0_0.take ix.toNat))∧As (0 ≤ nsum∧nsum ≤ 1666666 * ix)∧As (w'.heap[gP]? = some (.cells #[.slice A0_0 l0_0.length c0_0,.slice A0_1 l0_1.length c0_1,.int .i64 a0_2,.int .i64 a0_3,.int .i64 a0_4] 26 (0,0)))∧As (w'.heap[gN]? = some (.cells #[.int .i64 nsum] 3 (0,0)))∧As (Below w.heap.size w w'))
   case atStart => exact ⟨0,0,vL_,⟨by omega⟩,⟨by simp⟩,⟨by simp⟩,⟨by simp [tot]⟩,⟨by omega⟩,⟨by (with_reducible repeat (first|refine kN ?_ _|refine kD ?_|refine kA ?_ _));refine blk_far ?_ NP_N.out _;(with_reducible repeat (first|refine kN ?_ _|refine kD ?_|refine kA ?_ _));exact BKP.out⟩,⟨by (with_reducible repeat (first|refine kN ?_ _|refine kD ?_|refine kA ?_ _));exact (blk_set BKN.out 0 _).trans rfl⟩,⟨bL HB⟩⟩
   case round =>
    clear hcP0 hfP0 hcP1 hfP1 hcP2 hfP2 hcP3 hfP3 hcP4 hfP4;clear hcN0 hfN0;clear BKP BKN HB;(try clear HQ);obtain ⟨ix,nsum,rfl,H0,HK,HG,HS,HSB,BKP,BKN,HB⟩:=hrel;have hcP0:=cC_ BKP 0 rfl;have hfP0:=kF BKP.out 0;have hcP1:=cC_ BKP 1 rfl;have hfP1:=kF BKP.out 1;have hcP2:=cC_ BKP 2 rfl;have hfP2:=kF BKP.out 2;have hcP3:=cC_ BKP 3 rfl;have hfP3:=kF BKP.out 3;have hcP4:=cC_ BKP 4 rfl;have hfP4:=kF BKP.out 4;have hcN0:=cC_ BKN 0 rfl;have hfN0:=kF BKN.out 0
    cases gk with
    | succ k2 =>
     have q0 : 0 ≤ ix:=H0.out
     have q1 : ix < (l0_0.length : Int):=by have:=HK.out;omega
     have HM:=Am (getD_mem l0_0 ix.toNat z49 (by omega));have HT:=Am (take_snoc_getD l0_0 ix.toNat z49 (by omega));have HX:=Am (show (ix + 1).toNat = ix.toNat + 1 by omega);obtain ⟨ad,e,hx0,hx1⟩:=at_T49 HR0_0.out ix q0 q1;cases e;replace hx0:=(HB.out.cell (World.block_lt_of_cell? w _ hx0)).trans hx0;replace hx1:=(HB.out.cell (World.block_lt_of_cell? w _ hx1)).trans hx1
     obtain ⟨xx,hxx⟩ : ∃ xx,rd_T49 l0_0 ix = xx:=⟨_,rfl⟩
     rw [hxx] at hx0 hx1;have HXX:=Am (show l0_0.getD ix.toNat z49 = xx from hxx);clear hxx;obtain ⟨x0,x1⟩:=xx;simp only at hx0 hx1;have q0b : decide (0 ≤ ix) = true:=decide_eq_true q0;have q1b : decide (ix < (l0_0.length : Int)) = true:=decide_eq_true q1;replace q0:=eq_true q0;replace q1:=eq_true q1
     go_upto_region 7 with (first|((with_reducible refine gate_dst (N:=5) rfl ?_);(try (refine gate_guard (by rfl) ?_;dsimp only));refine box_event ?hg (N:=5) ?hd (cs:=#[.int .i64 0,.int .i64 0]) (t:=49) ?hr ?_;(case hd => rfl);(case hg => rfl);(case hr => first|(go_simp;done)|(go_simp;rfl));intro gX hg wX hbox hb;have n0_:=Am (kB_ BKP hb);have n1_:=Am (kB_ BKN hb);have n2_:=Am (below_step (bL HB) hb);have n3_:=Am (hbox);have n4_:=Am ((gS_ hg HB));have n5_:=Am ((gM_ hg BKP));have n6_:=Am ((gN_ hg BKP));have n7_:=Am ((gM_ hg BKN));have n8_:=Am ((gN_ hg BKN));clear BKP;clear BKN;clear HB;have BKP:=n0_;have BKN:=n1_;have HB:=n2_;have BKX:=n3_;have GEX:=n4_;have NP_X:=n5_;have NX_P:=n6_;have NN_X:=n7_;have NX_N:=n8_;clear n0_ n1_ n2_ n3_ n4_ n5_ n6_ n7_ n8_;clear hb hbox hg;have hnP_X:=NP_X.out;have hnX_P:=NX_P.out;have hnN_X:=NN_X.out;have hnX_N:=NX_N.out;have hcX0:=cC_ BKX 0 rfl;have hfX0:=kF BKX.out 0;have hcX1:=cC_ BKX 1 rfl;have hfX1:=kF BKX.out 1;clear hcP0 hfP0 hcP1 hfP1 hcP2 hfP2 hcP3 hfP3 hcP4 hfP4;clear hcN0 hfN0;have hcP0:=cC_ BKP 0 rfl;have hfP0:=kF BKP.out 0;have hcP1:=cC_ BKP 1 rfl;have hfP1:=kF BKP.out 1;have hcP2:=cC_ BKP 2 rfl;have hfP2:=kF BKP.out 2;have hcP3:=cC_ BKP 3 rfl;have hfP3:=kF BKP.out 3;have hcP4:=cC_ BKP 4 rfl;have hfP4:=kF BKP.out 4;have hcN0:=cC_ BKN 0 rfl;have hfN0:=kF BKN.out 0))
     (try simp only [Act.put,List.setIfInBounds_toArray,List.set_cons_zero,List.set_cons_succ])
     by_cases k1 : x0 < 1
     ·have K1:=Am k1;have k1b : decide (x0 < 1) = true:=decide_eq_true k1;clear k1;go_wp2;go_ret;exact ⟨ret_i (a:=2) (by rw [← HV.out,pok2 HN.out HM.out (by rw [HXX.out];have:=K1.out;simp [pk_bad];omega)]),bL HB⟩
     have K1:=Am k1;have k1b : decide (x0 < 1) = false:=decide_eq_false k1;clear k1
     by_cases k2_ : 1666666 < x0
     ·have K2:=Am k2_;have k2b : decide (1666666 < x0) = true:=decide_eq_true k2_;clear k2_;go_wp2;go_ret;exact ⟨ret_i (a:=2) (by rw [← HV.out,pok2 HN.out HM.out (by rw [HXX.out];have:=K2.out;simp [pk_bad];omega)]),bL HB⟩
     have K2:=Am k2_;have k2b : decide (1666666 < x0) = false:=decide_eq_false k2_;clear k2_
     by_cases k3 : 10 ≤ x1∧x1 ≤ 1000
     ·have K3:=Am k3;have HBR:=Am (show impl_brake.f x1 = some true by unfold impl_brake.f;rw [if_pos (by omega)];simp;omega);clear k3
      have HW:=Am (show wrap64 (nsum + x0) = tot (l0_0.take (ix + 1).toNat)∧0 ≤ nsum + x0∧nsum + x0 ≤ 1666666 * (ix + 1) by
       have h1:=HS.out;have h2:=HSB.out;have h3:=K1.out;have h4:=K2.out;have h5:=HN.out;have h6:=HK.out;rw [HX.out,HT.out,tot_append,HXX.out,← h1];refine ⟨?_,by omega,by omega⟩
       unfold wrap64;simp only [tot];omega)
      have HI:=Am (show wrap64 (ix + 1) = ix + 1 by have h6:=HK.out;have h0:=H0.out;have h5:=HN.out;unfold wrap64;omega)
      have HG2:=Am (show ∀ y ∈ l0_0.take (ix + 1).toNat,pk_bad y = false by
       rw [HX.out,HT.out,HXX.out];intro y hy
       rcases List.mem_append.mp hy with hy|hy
       ·exact HG.out y hy
       ·have h3:=K1.out;have h4:=K2.out;have h5:=K3.out
        rw [List.mem_singleton] at hy;subst hy;simp [pk_bad];omega)
      have HW7:=Am (show wrap64 (nsum + x0) = nsum + x0 by
       have h1:=HW.out;have h5:=HN.out;have h6:=HK.out
       unfold wrap64;omega)
      have Q1:=Am (show 0 ≤ wrap64 (ix + 1) by rw [HI.out];have:=H0.out;omega);have Q2:=Am (show wrap64 (ix + 1) + k2 = l0_0.length by rw [HI.out];have:=HK.out;omega);have Q3:=Am (show ∀ y ∈ l0_0.take (wrap64 (ix + 1)).toNat,pk_bad y = false by rw [HI.out];exact HG2.out);have Q4:=Am (show wrap64 (nsum + x0) = tot (l0_0.take (wrap64 (ix + 1)).toNat) by rw [HI.out];exact HW.out.1);have Q5:=Am (show 0 ≤ wrap64 (nsum + x0)∧wrap64 (nsum + x0) ≤ 1666666 * wrap64 (ix + 1) by rw [HI.out,HW7.out];exact HW.out.2)
      go_wp2_with (first|(go_at_call 29;(with_reducible refine (impl_brake.calls x1 true _ HBR.out).mono ?_);rintro e w' ⟨rfl,⟨nd,rfl⟩⟩))
      go_roundg k2
      case measure => omega
      case rel => exact ⟨wrap64 (ix + 1),wrap64 (nsum + x0),vL_,Q1,Q2,Q3,Q4,Q5,⟨by (with_reducible repeat (first|refine kN ?_ _|refine kD ?_|refine kA ?_ _));refine blk_far ?_ NP_N.out _;(with_reducible repeat (first|refine kN ?_ _|refine kD ?_|refine kA ?_ _));refine blk_far ?_ NP_X.out _;(with_reducible repeat (first|refine kN ?_ _|refine kD ?_|refine kA ?_ _));refine blk_far ?_ NP_X.out _;(with_reducible repeat (first|refine kN ?_ _|refine kD ?_|refine kA ?_ _));exact BKP.out⟩,⟨by (with_reducible repeat (first|refine kN ?_ _|refine kD ?_|refine kA ?_ _));refine (blk_set (cs:=#[.int .i64 nsum]) ?_ 0 _).trans rfl;(with_reducible repeat (first|refine kN ?_ _|refine kD ?_|refine kA ?_ _));refine blk_far ?_ NN_X.out _;(with_reducible repeat (first|refine kN ?_ _|refine kD ?_|refine kA ?_ _));refine blk_far ?_ NN_X.out _;(with_reducible repeat (first|refine kN ?_ _|refine kD ?_|refine kA ?_ _));exact BKN.out⟩,⟨bL HB⟩⟩
     ·have K3:=Am k3;have HBR:=Am (show impl_brake.f x1 = some false by unfold impl_brake.f;by_cases z : x1 ≥ 10;{ rw [if_pos z];simp;omega };{ rw [if_neg z] });clear k3
      go_wp2_with (first|(go_at_call 29;(with_reducible refine (impl_brake.calls x1 false _ HBR.out).mono ?_);rintro e w' ⟨rfl,⟨nd,rfl⟩⟩))
      go_ret;exact ⟨ret_i (a:=2) (by rw [← HV.out,pok2 HN.out HM.out (by rw [HXX.out];have:=K3.out;simp [pk_bad];omega)]),bL HB⟩
    | zero =>
     have EX:=Am (show ix = (l0_0.length : Int) by have:=HK.out;omega);have q1b : decide (ix < (l0_0.length : Int)) = false:=decide_eq_false (by have:=HK.out;omega);have HG0:=Am (show ∀ y ∈ l0_0,pk_bad y = false by have h:=HG.out;rw [EX.out,Int.toNat_natCast,List.take_length] at h;exact h);have HS0:=Am (show nsum = tot l0_0 by have h:=HS.out;rw [EX.out,Int.toNat_natCast,List.take_length] at h;exact h);clear HG HS HSB HK EX H0;go_wp2
     go_loopg [55] l0_1.length (fun kq v55 w' => ∃ (iz : Int),v55 = .int .i64 iz∧As (0 ≤ iz)∧As (iz + kq = l0_1.length)∧As (∀ y ∈ l0_1.take iz.toNat,zn_bad nsum y = false)∧As (w'.heap[gP]? = some (.cells #[.slice A0_0 l0_0.length c0_0,.slice A0_1 l0_1.length c0_1,.int .i64 a0_2,.int .i64 a0_3,.int .i64 a0_4] 26 (0,0)))∧As (w'.heap[gN]? = some (.cells #[.int .i64 nsum] 3 (0,0)))∧As (Below w.heap.size w w'))
     case atStart => exact ⟨0,vL_,⟨by omega⟩,⟨by simp⟩,⟨by simp⟩,⟨kL BKP⟩,⟨kL BKN⟩,⟨bL HB⟩⟩
     case round =>
      clear hcP0 hfP0 hcP1 hfP1 hcP2 hfP2 hcP3 hfP3 hcP4 hfP4;clear hcN0 hfN0;clear BKP BKN HB q1b;obtain ⟨iz,rfl,H0,HK,HG,BKP,BKN,HB⟩:=hrel;have hcP0:=cC_ BKP 0 rfl;have hfP0:=kF BKP.out 0;have hcP1:=cC_ BKP 1 rfl;have hfP1:=kF BKP.out 1;have hcP2:=cC_ BKP 2 rfl;have hfP2:=kF BKP.out 2;have hcP3:=cC_ BKP 3 rfl;have hfP3:=kF BKP.out 3;have hcP4:=cC_ BKP 4 rfl;have hfP4:=kF BKP.out 4;have hcN0:=cC_ BKN 0 rfl;have hfN0:=kF BKN.out 0
      cases gk with
      | succ k2 =>
       have q0 : 0 ≤ iz:=H0.out
       have q1 : iz < (l0_1.length : Int):=by have:=HK.out;omega
       have HM:=Am (getD_mem l0_1 iz.toNat z56 (by omega));have HT:=Am (take_snoc_getD l0_1 iz.toNat z56 (by omega));have HX:=Am (show (iz + 1).toNat = iz.toNat + 1 by omega);obtain ⟨ad,e,hx0,hx1,hx2⟩:=at_T56 HR0_1.out iz q0 q1;cases e;replace hx0:=(HB.out.cell (World.block_lt_of_cell? w _ hx0)).trans hx0;replace hx1:=(HB.out.cell (World.block_lt_of_cell? w _ hx1)).trans hx1;replace hx2:=(HB.out.cell (World.block_lt_of_cell? w _ hx2)).trans hx2
       obtain ⟨xx,hxx⟩ : ∃ xx,rd_T56 l0_1 iz = xx:=⟨_,rfl⟩
       rw [hxx] at hx0 hx1 hx2;have HXX:=Am (show l0_1.getD iz.toNat z56 = xx from hxx);clear hxx;obtain ⟨x0,x1,x2⟩:=xx;simp only at hx0 hx1 hx2;have q0b : decide (0 ≤ iz) = true:=decide_eq_true q0;have q1b : decide (iz < (l0_1.length : Int)) = true:=decide_eq_true q1;replace q0:=eq_true q0;replace q1:=eq_true q1
       go_upto_region 15 with (first|((with_reducible refine gate_dst (N:=8) rfl ?_);(try (refine gate_guard (by rfl) ?_;dsimp only));refine box_event ?hg (N:=8) ?hd (cs:=#[.int .i64 0,.int .i64 0,.int .i64 0]) (t:=56) ?hr ?_;(case hd => rfl);(case hg => rfl);(case hr => first|(go_simp;done)|(go_simp;rfl));intro gZ hg wZ hbox hb;have n0_:=Am (kB_ BKP hb);have n1_:=Am (kB_ BKN hb);have n2_:=Am (below_step (bL HB) hb);have n3_:=Am (hbox);have n4_:=Am ((gS_ hg HB));have n5_:=Am ((gM_ hg BKP));have n6_:=Am ((gN_ hg BKP));have n7_:=Am ((gM_ hg BKN));have n8_:=Am ((gN_ hg BKN));clear BKP;clear BKN;clear HB;have BKP:=n0_;have BKN:=n1_;have HB:=n2_;have BKZ:=n3_;have GEZ:=n4_;have NP_Z:=n5_;have NZ_P:=n6_;have NN_Z:=n7_;have NZ_N:=n8_;clear n0_ n1_ n2_ n3_ n4_ n5_ n6_ n7_ n8_;clear hb hbox hg;have hnP_Z:=NP_Z.out;have hnZ_P:=NZ_P.out;have hnN_Z:=NN_Z.out;have hnZ_N:=NZ_N.out;have hcZ0:=cC_ BKZ 0 rfl;have hfZ0:=kF BKZ.out 0;have hcZ1:=cC_ BKZ 1 rfl;have hfZ1:=kF BKZ.out 1;have hcZ2:=cC_ BKZ 2 rfl;have hfZ2:=kF BKZ.out 2;clear hcP0 hfP0 hcP1 hfP1 hcP2 hfP2 hcP3 hfP3 hcP4 hfP4;clear hcN0 hfN0;have hcP0:=cC_ BKP 0 rfl;have hfP0:=kF BKP.out 0;have hcP1:=cC_ BKP 1 rfl;have hfP1:=kF BKP.out 1;have hcP2:=cC_ BKP 2 rfl;have hfP2:=kF BKP.out 2;have hcP3:=cC_ BKP 3 rfl;have hfP3:=kF BKP.out 3;have hcP4:=cC_ BKP 4 rfl;have hfP4:=kF BKP.out 4;have hcN0:=cC_ BKN 0 rfl;have hfN0:=kF BKN.out 0))
       (try simp only [Act.put,List.setIfInBounds_toArray,List.set_cons_zero,List.set_cons_succ])
       by_cases k1 : inB nsum x0 = true
       ·have K1:=Am k1;clear k1
        by_cases k2_ : inB nsum x1 = true
        ·have K2:=Am k2_;clear k2_
         by_cases k3 : x1 < x0
         ·have K3:=Am k3;have k3b : decide (x1 < x0) = true:=decide_eq_true k3;clear k3
          go_wp2_with (first|(go_at_call 30;(with_reducible refine (impl_place.calls gN nsum x0 true _ ?hcN K1.out).mono ?_);(case hcN => go_simp);rintro e w' ⟨rfl,⟨nd,rfl⟩⟩)|(go_at_call 30;(with_reducible refine (impl_place.calls gN nsum x1 true _ ?hcN K2.out).mono ?_);(case hcN => go_simp);rintro e w' ⟨rfl,⟨nd,rfl⟩⟩))
          go_ret;exact ⟨ret_i (a:=3) (by rw [← HV.out,pok3 HN.out HG0.out HM.out (by rw [HXX.out,← HS0.out];have:=K3.out;simp [zn_bad];omega)]),bL HB⟩
         have K3:=Am k3;have k3b : decide (x1 < x0) = false:=decide_eq_false k3;clear k3
         by_cases k4 : x2 < 1
         ·have K4:=Am k4;have k4b : decide (x2 < 1) = true:=decide_eq_true k4;clear k4
          go_wp2_with (first|(go_at_call 30;(with_reducible refine (impl_place.calls gN nsum x0 true _ ?hcN K1.out).mono ?_);(case hcN => go_simp);rintro e w' ⟨rfl,⟨nd,rfl⟩⟩)|(go_at_call 30;(with_reducible refine (impl_place.calls gN nsum x1 true _ ?hcN K2.out).mono ?_);(case hcN => go_simp);rintro e w' ⟨rfl,⟨nd,rfl⟩⟩))
          go_ret;exact ⟨ret_i (a:=3) (by rw [← HV.out,pok3 HN.out HG0.out HM.out (by rw [HXX.out,← HS0.out];have:=K4.out;simp [zn_bad];omega)]),bL HB⟩
         have K4:=Am k4;have k4b : decide (x2 < 1) = false:=decide_eq_false k4;clear k4
         by_cases k5 : 10000 < x2
         ·have K5:=Am k5;have k5b : decide (10000 < x2) = true:=decide_eq_true k5;clear k5
          go_wp2_with (first|(go_at_call 30;(with_reducible refine (impl_place.calls gN nsum x0 true _ ?hcN K1.out).mono ?_);(case hcN => go_simp);rintro e w' ⟨rfl,⟨nd,rfl⟩⟩)|(go_at_call 30;(with_reducible refine (impl_place.calls gN nsum x1 true _ ?hcN K2.out).mono ?_);(case hcN => go_simp);rintro e w' ⟨rfl,⟨nd,rfl⟩⟩))
          go_ret;exact ⟨ret_i (a:=3) (by rw [← HV.out,pok3 HN.out HG0.out HM.out (by rw [HXX.out,← HS0.out];have:=K5.out;simp [zn_bad];omega)]),bL HB⟩
         have K5:=Am k5;have k5b : decide (10000 < x2) = false:=decide_eq_false k5;clear k5;have HI:=Am (show wrap64 (iz + 1) = iz + 1 by have h6:=HK.out;have h0:=H0.out;have h5:=HN.out;unfold wrap64;omega)
         have HG2:=Am (show ∀ y ∈ l0_1.take (iz + 1).toNat,zn_bad nsum y = false by
          rw [HX.out,HT.out,HXX.out];intro y hy
          rcases List.mem_append.mp hy with hy|hy
          ·exact HG.out y hy
          ·have h1:=K1.out;have h2:=K2.out;have h3:=K3.out;have h4:=K4.out;have h5:=K5.out
           rw [List.mem_singleton] at hy;subst hy;simp only [zn_bad,h1,h2];simp;omega)
         have Q1:=Am (show 0 ≤ wrap64 (iz + 1) by rw [HI.out];have:=H0.out;omega);have Q2:=Am (show wrap64 (iz + 1) + k2 = l0_1.length by rw [HI.out];have:=HK.out;omega);have Q3:=Am (show ∀ y ∈ l0_1.take (wrap64 (iz + 1)).toNat,zn_bad nsum y = false by rw [HI.out];exact HG2.out)
         go_wp2_with (first|(go_at_call 30;(with_reducible refine (impl_place.calls gN nsum x0 true _ ?hcN K1.out).mono ?_);(case hcN => go_simp);rintro e w' ⟨rfl,⟨nd,rfl⟩⟩)|(go_at_call 30;(with_reducible refine (impl_place.calls gN nsum x1 true _ ?hcN K2.out).mono ?_);(case hcN => go_simp);rintro e w' ⟨rfl,⟨nd,rfl⟩⟩))
         go_roundg k2
         case measure => omega
         case rel => exact ⟨wrap64 (iz + 1),vL_,Q1,Q2,Q3,⟨by (with_reducible repeat (first|refine kN ?_ _|refine kD ?_|refine kA ?_ _));refine blk_far ?_ NP_Z.out _;(with_reducible repeat (first|refine kN ?_ _|refine kD ?_|refine kA ?_ _));refine blk_far ?_ NP_Z.out _;(with_reducible repeat (first|refine kN ?_ _|refine kD ?_|refine kA ?_ _));refine blk_far ?_ NP_Z.out _;(with_reducible repeat (first|refine kN ?_ _|refine kD ?_|refine kA ?_ _));exact BKP.out⟩,⟨by (with_reducible repeat (first|refine kN ?_ _|refine kD ?_|refine kA ?_ _));refine blk_far ?_ NN_Z.out _;(with_reducible repeat (first|refine kN ?_ _|refine kD ?_|refine kA ?_ _));refine blk_far ?_ NN_Z.out _;(with_reducible repeat (first|refine kN ?_ _|refine kD ?_|refine kA ?_ _));refine blk_far ?_ NN_Z.out _;(with_reducible repeat (first|refine kN ?_ _|refine kD ?_|refine kA ?_ _));exact BKN.out⟩,⟨bL HB⟩⟩
        ·have K2:=Am (Bool.eq_false_iff.mpr k2_);clear k2_
         go_wp2_with (first|(go_at_call 30;(with_reducible refine (impl_place.calls gN nsum x0 true _ ?hcN K1.out).mono ?_);(case hcN => go_simp);rintro e w' ⟨rfl,⟨nd,rfl⟩⟩)|(go_at_call 30;(with_reducible refine (impl_place.calls gN nsum x1 false _ ?hcN K2.out).mono ?_);(case hcN => go_simp);rintro e w' ⟨rfl,⟨nd,rfl⟩⟩))
         go_ret;exact ⟨ret_i (a:=3) (by rw [← HV.out,pok3 HN.out HG0.out HM.out (by rw [HXX.out,← HS0.out];have:=K2.out;simp [zn_bad,this])]),bL HB⟩
       ·have K1:=Am (Bool.eq_false_iff.mpr k1);clear k1
        go_wp2_with (first|(go_at_call 30;(with_reducible refine (impl_place.calls gN nsum x0 false _ ?hcN K1.out).mono ?_);(case hcN => go_simp);rintro e w' ⟨rfl,⟨nd,rfl⟩⟩))
        go_ret;exact ⟨ret_i (a:=3) (by rw [← HV.out,pok3 HN.out HG0.out HM.out (by rw [HXX.out,← HS0.out];have:=K1.out;simp [zn_bad,this])]),bL HB⟩
      | zero =>
       have EX:=Am (show iz = (l0_1.length : Int) by have:=HK.out;omega);have q1b : decide (iz < (l0_1.length : Int)) = false:=decide_eq_false (by have:=HK.out;omega);have HZ0:=Am (show ∀ y ∈ l0_1,zn_bad (tot l0_0) y = false by have h:=HG.out;rw [EX.out,Int.toNat_natCast,List.take_length,HS0.out] at h;exact h);clear HG HK EX H0;have HR:=Am (pokn (tr:=a0_2) (en:=a0_3) (de:=a0_4) HN.out HG0.out HZ0.out)
       by_cases k1 : 0 ≤ a0_2∧a0_2 ≤ 100000000
       ·have K1:=Am k1;have HLE:=Am (show impl_length.f a0_2 = some true by unfold impl_length.f;rw [if_pos (by omega)];simp;omega);clear k1
        by_cases k2 : 0 ≤ a0_3∧a0_3 ≤ nsum
        ·have K2:=Am k2;have HPL:=Am (show inB nsum a0_3 = true by simp [inB];omega);clear k2
         by_cases k3 : a0_4 < 0
         ·have K3:=Am k3;have k3b : decide (a0_4 < 0) = true:=decide_eq_true k3;clear k3
          go_wp2_with (first|(go_at_call 31;(with_reducible refine (impl_length.calls a0_2 true _ HLE.out).mono ?_);rintro e w' ⟨rfl,⟨nd,rfl⟩⟩)|(go_at_call 30;(with_reducible refine (impl_place.calls gN nsum a0_3 true _ ?hcN HPL.out).mono ?_);(case hcN => go_simp);rintro e w' ⟨rfl,⟨nd,rfl⟩⟩))
          go_ret;exact ⟨ret_i (a:=6) (by rw [← HV.out,HR.out,← HS0.out];have:=K3.out;rw [if_neg (not_not_intro K1.out),if_neg (not_not_intro K2.out),if_pos (by omega)]),bL HB⟩
         have K3:=Am k3;have k3b : decide (a0_4 < 0) = false:=decide_eq_false k3;clear k3
         by_cases k4 : 20 < a0_4
         ·have K4:=Am k4;have k4b : decide (20 < a0_4) = true:=decide_eq_true k4;clear k4
          go_wp2_with (first|(go_at_call 31;(with_reducible refine (impl_length.calls a0_2 true _ HLE.out).mono ?_);rintro e w' ⟨rfl,⟨nd,rfl⟩⟩)|(go_at_call 30;(with_reducible refine (impl_place.calls gN nsum a0_3 true _ ?hcN HPL.out).mono ?_);(case hcN => go_simp);rintro e w' ⟨rfl,⟨nd,rfl⟩⟩))
          go_ret;exact ⟨ret_i (a:=6) (by rw [← HV.out,HR.out,← HS0.out];have:=K4.out;rw [if_neg (not_not_intro K1.out),if_neg (not_not_intro K2.out),if_pos (by omega)]),bL HB⟩
         ·have K4:=Am k4;have k4b : decide (20 < a0_4) = false:=decide_eq_false k4;clear k4
          go_wp2_with (first|(go_at_call 31;(with_reducible refine (impl_length.calls a0_2 true _ HLE.out).mono ?_);rintro e w' ⟨rfl,⟨nd,rfl⟩⟩)|(go_at_call 30;(with_reducible refine (impl_place.calls gN nsum a0_3 true _ ?hcN HPL.out).mono ?_);(case hcN => go_simp);rintro e w' ⟨rfl,⟨nd,rfl⟩⟩))
          go_ret;exact ⟨ret_i (a:=0) (by rw [← HV.out,HR.out,← HS0.out];have:=K3.out;have:=K4.out;rw [if_neg (not_not_intro K1.out),if_neg (not_not_intro K2.out),if_neg (by omega)]),bL HB⟩
        ·have K2:=Am k2;have HPL:=Am (show inB nsum a0_3 = false by simp [inB];omega);clear k2
         go_wp2_with (first|(go_at_call 31;(with_reducible refine (impl_length.calls a0_2 true _ HLE.out).mono ?_);rintro e w' ⟨rfl,⟨nd,rfl⟩⟩)|(go_at_call 30;(with_reducible refine (impl_place.calls gN nsum a0_3 false _ ?hcN HPL.out).mono ?_);(case hcN => go_simp);rintro e w' ⟨rfl,⟨nd,rfl⟩⟩))
         go_ret;exact ⟨ret_i (a:=5) (by rw [← HV.out,HR.out,← HS0.out];rw [if_neg (not_not_intro K1.out),if_pos K2.out]),bL HB⟩
       ·have K1:=Am k1;have HLE:=Am (show impl_length.f a0_2 = some false by unfold impl_length.f;by_cases z : a0_2 ≥ 0;{ rw [if_pos z];simp;omega };{ rw [if_neg z] });clear k1
        go_wp2_with (first|(go_at_call 31;(with_reducible refine (impl_length.calls a0_2 false _ HLE.out).mono ?_);rintro e w' ⟨rfl,⟨nd,rfl⟩⟩))
        go_ret;exact ⟨ret_i (a:=4) (by rw [← HV.out,HR.out,← HS0.out];rw [if_pos K1.out]),bL HB⟩

end Go.Proofs.YtanjbdgmnecacaaDoor.PT
