-- Written by a program of this session (wip/print/myprint.py) over the kit's print, with contracts of its own; not a text of print.sh's.
import Derived.Test.YtanjbdgmnecacaaDoorPTx0
import Derived.Test.YtanjbdgmnecacaaDoorPTx10
import Derived.Test.YtanjbdgmnecacaaDoorShelf
import Derived.Lib.ItoaLen
import Derived.Lib.AppendIntMem
namespace Go.Proofs.YtanjbdgmnecacaaDoor.PT
open Go.RowKit Go.Proofs.YtanjbdgmnecacaaDoorW.PrintWords Go.Proofs.YtanjbdgmnecacaaDoorW.PrintLast Go.Proofs.YtanjbdgmnecacaaDoorW.PrintMore
attribute [local go_sem] max2_int min2_int max_two min_two   -- for this text's walks alone
set_option linter.unusedVariables false
set_option linter.unusedSimpArgs false

/-! ### impl_WriteProfile: function 5 -/
/-- a number's text, as bytes -/
def numB (n : Int) : ByteArray:=⟨(Lib.itoa n).toArray⟩
def pcB (x : S49) : ByteArray:=(((((⟨#[116,114,97,99,107,32]⟩ : ByteArray) ++ numB x.f0) ++ (⟨#[32,98,114,97,107,101,32]⟩ : ByteArray)) ++ numB x.f1) ++ (⟨#[10]⟩ : ByteArray))
def znB (x : S56) : ByteArray:=(((((((⟨#[108,105,109,105,116,32]⟩ : ByteArray) ++ numB x.f0) ++ (⟨#[32]⟩ : ByteArray)) ++ numB x.f1) ++ (⟨#[32]⟩ : ByteArray)) ++ numB x.f2) ++ (⟨#[10]⟩ : ByteArray))
def tlB (tr en de : Int) : ByteArray:=(((((((⟨#[116,114,97,105,110,32]⟩ : ByteArray) ++ numB tr) ++ (⟨#[32,101,110,100,32]⟩ : ByteArray)) ++ numB en) ++ (⟨#[32,100,101,108,97,121,32]⟩ : ByteArray)) ++ numB de) ++ (⟨#[10]⟩ : ByteArray))
def pcT (x : S49) : List UInt8:=(pcB x).data.toList
def znT (x : S56) : List UInt8:=(znB x).data.toList
def tlT (tr en de : Int) : List UInt8:=(tlB tr en de).data.toList
/-- the whole text -/
def wrT (ps : List S49) (zs : List S56) (tr en de : Int) : List UInt8:=ps.flatMap pcT ++ zs.flatMap znT ++ tlT tr en de
def wrV (ps : List S49) (zs : List S56) (tr en de : Int) : List UInt8:=if pokV ps zs tr en de = 0 then (if (wrT ps zs tr en de).length > 3000 then [] else wrT ps zs tr en de) else []
def impl_WriteProfile.f (l0_0 : List S49) (l0_1 : List S56) (a0_2 a0_3 a0_4 : Int) : Option ByteArray:=some ⟨(wrV l0_0 l0_1 a0_2 a0_3 a0_4).toArray⟩
theorem numB_le (n : Int) (h0 : 0 ≤ n) (h1 : n ≤ 1000000000) : (numB n).size ≤ 21:=by
 have:=Lib.itoa_length_le n (by omega) (by omega)
 show (Lib.itoa n).toArray.size ≤ 21
 simpa using this
theorem size_lit (a : Array UInt8) : (⟨a⟩ : ByteArray).size = a.size:=rfl
theorem dsz (s : ByteArray) : s.data.toList.length = s.size:=Array.length_toList
theorem pcT_le (x : S49) (h0 : 0 ≤ x.f0∧x.f0 ≤ 1000000000) (h1 : 0 ≤ x.f1∧x.f1 ≤ 1000000000) : (pcT x).length ≤ 60:=by
 have a:=numB_le _ h0.1 h0.2;have b:=numB_le _ h1.1 h1.2;unfold pcT;rw [dsz];unfold pcB;simp only [ByteArray.size_append,size_lit];simp;omega
theorem znT_le (x : S56) (h0 : 0 ≤ x.f0∧x.f0 ≤ 1000000000) (h1 : 0 ≤ x.f1∧x.f1 ≤ 1000000000) (h2 : 0 ≤ x.f2∧x.f2 ≤ 1000000000) : (znT x).length ≤ 80:=by
 have a:=numB_le _ h0.1 h0.2;have b:=numB_le _ h1.1 h1.2;have c:=numB_le _ h2.1 h2.2;unfold znT;rw [dsz];unfold znB;simp only [ByteArray.size_append,size_lit];simp;omega
theorem flat_le {α : Type} (l : List α) (f : α → List UInt8) (c : Nat) (h : ∀ x ∈ l,(f x).length ≤ c) : (l.flatMap f).length ≤ c * l.length:=by
 induction l with
 | nil => simp
 | cons x l ih =>
  have h1:=h x List.mem_cons_self;have h2:=ih (fun y hy => h y (List.mem_cons_of_mem _ hy));rw [List.flatMap_cons,List.length_append,List.length_cons,Nat.mul_succ];omega
/-- What stands in memory while the text is written: the profile's box, the builder with what it holds, the table of Go's library. -/
structure WE (w W : World) (pc : Array Value) (gP gB : Nat) (acc : List UInt8) : Prop where
 pb : W.heap[gP]? = some (.cells pc 26 (0,0))
 bl : Lib.IsBuilder 47 5 gB gB (Lib.byteCells acc) W
 lt : gP < gB
 ge : w.heap.size ≤ gP
 sz : gB < W.heap.size
 bw : Below w.heap.size w W
 tb : Lib.TabIs Tryd.prog w "internal/strconv.uint64pow10" .u64 Lib.pow10Tab
theorem bAt_below {T e : TypeId} {B b : Nat} {p : Value} {bs : List Value} {W W' : World} (h : Lib.BuilderAt T e B b p bs W) (hb : Below W.heap.size W W') : Lib.BuilderAt T e B b p bs W':=by
 have hlt:=h.lt;obtain ⟨hB,v,hv,hown,hne⟩:=h;exact ⟨hB,v,(hb.block b hlt).trans hv,hown.kept (row:=none) ⟨hb.os,hb.tape,hb.output,hb.size,fun k hk _ => hb.block k hk⟩ (Classical.em _),hne⟩
section
variable {w W W1 : World} {pc : Array Value} {gP gB : Nat} {acc : List UInt8}
theorem WE.below (h : WE w W pc gP gB acc) (hb : Below W.heap.size W W1) : WE w W1 pc gP gB acc :=
 ⟨blk_below h.pb hb,h.bl.elim (fun x => .inl (bAt_below x hb)) (fun x => .inr (bAt_below x hb)),h.lt,h.ge,Nat.lt_of_lt_of_le h.sz hb.size,below_step h.bw hb,h.tb⟩
theorem WE.drewN (h : WE w W pc gP gB acc) (m : Nat) : WE w (W.drewN m) pc gP gB acc:=h.below (bN (Below.refl _ _) m)
theorem WE.drew (h : WE w W pc gP gB acc) : WE w W.drew pc gP gB acc:=h.below (bD (Below.refl _ _))
theorem WE.alloc (h : WE w W pc gP gB acc) (o : Obj) : WE w (W.alloc o) pc gP gB acc:=h.below (bA (Below.refl _ _) o)
theorem WE.tab (h : WE w W pc gP gB acc) : Lib.TabIs Tryd.prog W "internal/strconv.uint64pow10" .u64 Lib.pow10Tab:=Lib.tabBelow_of_tabIs h.tb W h.bw
theorem WE.start (hp : W.heap[gP]? = some (.cells pc 26 (0,0))) (ge : w.heap.size ≤ gP) (hB : Below w.heap.size w W) (ht : Lib.TabIs Tryd.prog w "internal/strconv.uint64pow10" .u64 Lib.pow10Tab)
  (hbox : W1.heap[gB]? = some (.cells #[.pointer none,.slice none 0 0] 47 (0,0))) (hg : gB = W.heap.size) (hb : Below W.heap.size W W1) : WE w W1 pc gP gB [] :=
 ⟨blk_below hp hb,.inl ⟨Nat.le_refl _,.slice none 0 0,hbox,World.ownsRow_nil _ _ _ _,by simp [Value.ownBlock]⟩,by rw [hg];exact (Array.getElem?_eq_some_iff.1 hp).1,ge,(Array.getElem?_eq_some_iff.1 hbox).1,below_step hB hb,ht⟩
theorem WE.itoa (h : WE w W pc gP gB acc) (n : Int) (h0 : 0 ≤ n) (h1 : n ≤ 1000000000) : Calls Tryd.prog 17 #[.int .i64 n] W fun e w' => e = .returned (.string (numB n))∧Below W.heap.size W w' :=
 (Tryd.strconv_Itoa n (by omega) (by omega) W h.tab).mono (fun _ _ hh => ⟨hh.1,by obtain ⟨k,os,e⟩:=hh.2;rw [e];exact Lib.below_grow _ W (Nat.le_refl _) k os⟩)
theorem WE.write (h : WE w W pc gP gB acc) (s : ByteArray) (hl : acc.length + s.size ≤ 1000000) : Calls Tryd.prog 16 #[.pointer (some ⟨gB,0,none⟩),.string s] W fun e w' => e = .returned (.tuple #[.int .i64 s.size,.nilIface])∧WE w w' pc gP gB (acc ++ s.data.toList) :=
 (Tryd.Builder_WriteString gB gB _ s W h.bl (by rw [Lib.byteCells_length];omega) (Nat.le_of_lt h.sz)).mono (fun _ _ hh => ⟨hh.1,by
  obtain ⟨_,hat,hb⟩:=hh;have hat2:=hat;rw [Lib.strCells_eq,← Lib.byteCells_append] at hat2;have hsz:=hb.size
  exact ⟨(hb.block gP h.lt).trans h.pb,.inr hat2,h.lt,h.ge,hat.lt,h.bw.trans (hb.mono (Nat.le_of_lt (Nat.lt_of_le_of_lt h.ge h.lt))),h.tb⟩⟩)
theorem WE.len (h : WE w W pc gP gB acc) : Calls Tryd.prog 18 #[.pointer (some ⟨gB,0,none⟩)] W fun e w' => e = .returned (.int .i64 (acc.length : Int))∧w' = W :=
 (Tryd.Builder_Len gB gB _ W h.bl).mono (fun _ _ hh => ⟨by rw [hh.1,Lib.byteCells_length],hh.2⟩)
theorem WE.str (h : WE w W pc gP gB acc) : Calls Tryd.prog 19 #[.pointer (some ⟨gB,0,none⟩)] W fun e w' => e = .returned (.string ⟨acc.toArray⟩)∧Below w.heap.size w w' :=
 (Tryd.Builder_String_any gB gB acc W h.bl (Nat.le_of_lt h.sz)).mono (fun _ _ hh => ⟨hh.1,h.bw.trans (hh.2.mono (Nat.le_of_lt (Nat.lt_of_le_of_lt h.ge h.lt)))⟩)
end
theorem wr_no {ps : List S49} {zs : List S56} {tr en de : Int} (h : pokV ps zs tr en de ≠ 0) : wrV ps zs tr en de = []:=by unfold wrV;rw [if_neg h]
theorem wr_long {ps : List S49} {zs : List S56} {tr en de : Int} (h : pokV ps zs tr en de = 0) (h2 : (wrT ps zs tr en de).length > 3000) : wrV ps zs tr en de = []:=by unfold wrV;rw [if_pos h,if_pos h2]
theorem wr_ok {ps : List S49} {zs : List S56} {tr en de : Int} (h : pokV ps zs tr en de = 0) (h2 : ¬ (wrT ps zs tr en de).length > 3000) : wrV ps zs tr en de = wrT ps zs tr en de:=by unfold wrV;rw [if_pos h,if_neg h2]
theorem ret_s {a b : ByteArray} (h : a = b) : Ending.returned (.string a) = .returned (.string b):=by rw [h]
/-- What a right profile's numbers are within. -/
structure Small (ps : List S49) (zs : List S56) (tr en de : Int) : Prop where
 n0 : ps.length ≤ 60
 n1 : zs.length ≤ 60
 hp : ∀ x ∈ ps,(0 ≤ x.f0∧x.f0 ≤ 1000000000)∧(0 ≤ x.f1∧x.f1 ≤ 1000000000)
 hz : ∀ x ∈ zs,(0 ≤ x.f0∧x.f0 ≤ 1000000000)∧(0 ≤ x.f1∧x.f1 ≤ 1000000000)∧(0 ≤ x.f2∧x.f2 ≤ 1000000000)
 ht : 0 ≤ tr∧tr ≤ 1000000000
 he : 0 ≤ en∧en ≤ 1000000000
 hd : 0 ≤ de∧de ≤ 1000000000
theorem tot_in {l : List S49} (h : ∀ x ∈ l,pk_bad x = false) : tot l ≤ 1666666 * l.length:=by
 induction l with
 | nil => simp [tot]
 | cons x l ih =>
  have h1:=h x List.mem_cons_self;have h2:=ih (fun y hy => h y (List.mem_cons_of_mem _ hy))
  simp [pk_bad] at h1
  rw [tot,List.length_cons];omega
theorem small_of {ps : List S49} {zs : List S56} {tr en de : Int} (h : pokV ps zs tr en de = 0) : Small ps zs tr en de:=by
 unfold pokV at h
 by_cases c1 : ps.length = 0 ∨ 60 < ps.length ∨ 60 < zs.length
 ·rw [if_pos c1] at h;omega
 rw [if_neg c1] at h
 by_cases c2 : ps.any pk_bad = true
 ·rw [if_pos c2] at h;omega
 rw [if_neg c2] at h
 have c2' : ∀ x ∈ ps,pk_bad x = false:=fun x hx => by
  cases e : pk_bad x with
  | false => rfl
  | true => exact absurd (List.any_eq_true.mpr ⟨x,hx,e⟩) c2
 by_cases c3 : zs.any (zn_bad (tot ps)) = true
 ·rw [if_pos c3] at h;omega
 rw [if_neg c3] at h
 have c3' : ∀ x ∈ zs,zn_bad (tot ps) x = false:=fun x hx => by
  cases e : zn_bad (tot ps) x with
  | false => rfl
  | true => exact absurd (List.any_eq_true.mpr ⟨x,hx,e⟩) c3
 have ht:=tot_in c2'
 have h4 : 0 ≤ tr∧tr ≤ 100000000:=by
  by_cases c : 0 ≤ tr∧tr ≤ 100000000
  ·exact c
  ·rw [if_pos c] at h;omega
 rw [if_neg (fun z => z h4)] at h
 have h5 : 0 ≤ en∧en ≤ tot ps:=by
  by_cases c : 0 ≤ en∧en ≤ tot ps
  ·exact c
  ·rw [if_pos c] at h;omega
 rw [if_neg (fun z => z h5)] at h
 have h6 : 0 ≤ de∧de ≤ 20:=by
  by_cases c : 0 ≤ de∧de ≤ 20
  ·exact c
  ·rw [if_pos c] at h;omega
 refine ⟨by omega,by omega,fun x hx => ?_,fun x hx => ?_,by omega,by omega,by omega⟩
 ·have:=c2' x hx;simp [pk_bad] at this;omega
 ·have:=c3' x hx;simp [zn_bad,inB] at this;omega
theorem Small.pl {ps : List S49} {zs : List S56} {tr en de : Int} (h : Small ps zs tr en de) (i : Nat) : ((ps.take i).flatMap pcT).length ≤ 3600:=by
 have h1:=flat_le (ps.take i) pcT 60 (fun x hx => have:=h.hp x (List.mem_of_mem_take hx);pcT_le x this.1 this.2);have h2:=h.n0;rw [List.length_take] at h1;omega
theorem Small.zl {ps : List S49} {zs : List S56} {tr en de : Int} (h : Small ps zs tr en de) (i : Nat) : ((zs.take i).flatMap znT).length ≤ 4800:=by
 have h1:=flat_le (zs.take i) znT 80 (fun x hx => have:=h.hz x (List.mem_of_mem_take hx);znT_le x this.1 this.2.1 this.2.2);have h2:=h.n1;rw [List.length_take] at h1;omega
theorem take_flat {α : Type} (l : List α) (f : α → List UInt8) (i : Nat) (d x : α) (h : i < l.length) (hx : l.getD i d = x) : (l.take (i + 1)).flatMap f = (l.take i).flatMap f ++ f x:=by
 rw [take_snoc_getD l i d h,List.flatMap_append,hx];simp
def impl_WriteProfile.T7 : Bool × List (List Nat × List Nat):=(true,[([],[]),([0],[0]),([1],[1]),([2],[2]),([3],[3]),([],[]),([5],[5]),([6,2],[6]),([4,7],[4,7]),([8],[8]),([9,7],[9])])
def impl_WriteProfile.B7 : List Nat:=[0,1,3,7,15,0,32,103,255,511,1023]
theorem impl_WriteProfile.tab7 : rtab .any (opsOf Tryd.f5 7) = impl_WriteProfile.T7:=by kernel_rfl
theorem impl_WriteProfile.bits7 : waitsOk impl_WriteProfile.T7.2 impl_WriteProfile.B7 = true:=by kernel_rfl
def impl_WriteProfile.T12 : Bool × List (List Nat × List Nat):=(true,[([],[]),([0],[0]),([1],[1]),([2],[2]),([3],[3]),([],[]),([5],[5]),([6,2],[6]),([4,7],[4,7]),([8],[8]),([],[]),([10],[10]),([11,7],[11]),([9,12],[9,12]),([13],[13]),([14,12],[14])])
def impl_WriteProfile.B12 : List Nat:=[0,1,3,7,15,0,32,103,255,511,0,1024,3303,8191,16383,32767]
theorem impl_WriteProfile.tab12 : rtab .any (opsOf Tryd.f5 12) = impl_WriteProfile.T12:=by kernel_rfl
theorem impl_WriteProfile.bits12 : waitsOk impl_WriteProfile.T12.2 impl_WriteProfile.B12 = true:=by kernel_rfl
def impl_WriteProfile.T14 : Bool × List (List Nat × List Nat):=(true,[([],[]),([0],[0]),([1],[1]),([2],[2]),([3],[3]),([],[]),([5],[5]),([6,2],[6]),([4,7],[4,7]),([8],[8]),([],[]),([10],[10]),([11,7],[11]),([9,12],[9,12]),([13],[13]),([14,12],[14])])
def impl_WriteProfile.B14 : List Nat:=[0,1,3,7,15,0,32,103,255,511,0,1024,3303,8191,16383,32767]
theorem impl_WriteProfile.tab14 : rtab .any (opsOf Tryd.f5 14) = impl_WriteProfile.T14:=by kernel_rfl
theorem impl_WriteProfile.bits14 : waitsOk impl_WriteProfile.T14.2 impl_WriteProfile.B14 = true:=by kernel_rfl
set_option maxHeartbeats 80000000 in
set_option maxRecDepth 100000 in
theorem impl_WriteProfile.calls (A0_0 : Option Addr) (c0_0 : Nat) (l0_0 : List (S49)) (A0_1 : Option Addr) (c0_1 : Nat) (l0_1 : List (S56)) (a0_2 : Int) (a0_3 : Int) (a0_4 : Int) (r : ByteArray) (w : World) (hr0_0 : Kd.C k49 w A0_0 l0_0.length l0_0) (hc0_0 : l0_0.length ≤ c0_0) (hr0_1 : Kd.C k56 w A0_1 l0_1.length l0_1) (hc0_1 : l0_1.length ≤ c0_1) (htab : Lib.TabIs Tryd.prog w "internal/strconv.uint64pow10" .u64 Lib.pow10Tab) (h : impl_WriteProfile.f l0_0 l0_1 a0_2 a0_3 a0_4 = some r) :
  Calls Tryd.prog 5 #[.agg #[.slice A0_0 l0_0.length c0_0,.slice A0_1 l0_1.length c0_1,.int .i64 a0_2,.int .i64 a0_3,.int .i64 a0_4]] w fun e w' => e = .returned (.string r)∧Below w.heap.size w w':=by
 have hu26:=Tryd.underlying26;have hu49:=Tryd.underlying49;have hu56:=Tryd.underlying56;have hu47:=Tryd.underlying47;have HR0_0:=Am hr0_0;have HC0_0:=Am hc0_0;clear hr0_0 hc0_0;have HR0_1:=Am hr0_1;have HC0_1:=Am hc0_1;clear hr0_1 hc0_1;have HT:=Am htab;clear htab;have HB:=Am (Below.refl w.heap.size w);have HV:=Am (Option.some.inj h : (⟨(wrV l0_0 l0_1 a0_2 a0_3 a0_4).toArray⟩ : ByteArray) = r);clear h
 obtain ⟨pv,hpv⟩ : ∃ v,pokV l0_0 l0_1 a0_2 a0_3 a0_4 = v:=⟨_,rfl⟩
 have HPV:=Am hpv;have HPK:=Am (show impl_ProfileOk.f l0_0 l0_1 a0_2 a0_3 a0_4 = some pv from congrArg some hpv);clear hpv
 by_cases c0 : pv = 0
 case neg =>
  have c0b0 : (pv == 0) = false:=beq_eq_false_iff_ne.mpr c0;have c0b1 : (pv != 0) = true:=bne_iff_ne.mpr c0;have C0:=Am c0;clear c0
  go_enter Tryd.func5,Tryd.ntmps5
  go_wp2_with (first|((with_reducible refine gate_dst (N:=1) rfl ?_);(try (refine gate_guard (by rfl) ?_;dsimp only));refine box_event ?hg (N:=1) ?hd (cs:=#[.slice A0_0 l0_0.length c0_0,.slice A0_1 l0_1.length c0_1,.int .i64 a0_2,.int .i64 a0_3,.int .i64 a0_4]) (t:=26) ?hr ?_;(case hd => rfl);(case hg => rfl);(case hr => first|(go_simp;done)|(go_simp;rfl));intro gP hg wP hbox hb;have n0_:=Am (below_step (bL HB) hb);have n1_:=Am hbox;have n2_:=Am ((by rw [hg];exact below_size (bL HB) : w.heap.size ≤ gP));clear HB;have HB:=n0_;have BKP:=n1_;have GEP:=n2_;clear n0_ n1_ n2_ hb hbox hg;have hcP0:=cC_ BKP 0 rfl;have hcP1:=cC_ BKP 1 rfl;have hcP2:=cC_ BKP 2 rfl;have hcP3:=cC_ BKP 3 rfl;have hcP4:=cC_ BKP 4 rfl;have hfP0:=kF BKP.out 0;have hfP1:=kF BKP.out 1;have hfP2:=kF BKP.out 2;have hfP3:=kF BKP.out 3;have hfP4:=kF BKP.out 4)|((with_reducible refine gate_callee (f:=15) rfl ?_);(try (refine gate_guard (by rfl) ?_;dsimp only));refine goesL_ (some 9) rfl rfl Tryd.func15 (by kernel_rfl) rfl #[.agg #[.slice A0_0 l0_0.length c0_0,.slice A0_1 l0_1.length c0_1,.int .i64 a0_2,.int .i64 a0_3,.int .i64 a0_4]] rfl lA ?_;(with_reducible refine (impl_ProfileOk.calls _ _ l0_0 _ _ l0_1 a0_2 a0_3 a0_4 pv _ (Kd.C_below HR0_0.out (bL HB)) HC0_0.out (Kd.C_below HR0_1.out (bL HB)) HC0_1.out HPK.out).mono ?_);rintro e wQ ⟨rfl,hb⟩;refine ⟨_,rfl,?_⟩;have n0_:=Am (below_step (bL HB) hb);have n1_:=Am (kB_ BKP hb);clear HB BKP;have HB:=n0_;have BKP:=n1_;clear n0_ n1_ hb;clear hcP0 hfP0 hcP1 hfP1 hcP2 hfP2 hcP3 hfP3 hcP4 hfP4;have hcP0:=cC_ BKP 0 rfl;have hcP1:=cC_ BKP 1 rfl;have hcP2:=cC_ BKP 2 rfl;have hcP3:=cC_ BKP 3 rfl;have hcP4:=cC_ BKP 4 rfl;have hfP0:=kF BKP.out 0;have hfP1:=kF BKP.out 1;have hfP2:=kF BKP.out 2;have hfP3:=kF BKP.out 3;have hfP4:=kF BKP.out 4))
  go_ret;exact ⟨ret_s (by rw [← HV.out,wr_no (by rw [HPV.out];exact C0.out)];try rfl),(bL HB)⟩
 case pos =>
 have HS:=Am (small_of (HPV.out.trans c0));have HPZ:=Am (HPV.out.trans c0);have c0b0 : (pv == 0) = true:=beq_iff_eq.mpr c0;have c0b1 : (pv != 0) = false:=bne_eq_false_iff_eq.mpr c0;clear c0
 go_enter Tryd.func5,Tryd.ntmps5
 go_wp2_with (first|((with_reducible refine gate_dst (N:=1) rfl ?_);(try (refine gate_guard (by rfl) ?_;dsimp only));refine box_event ?hg (N:=1) ?hd (cs:=#[.slice A0_0 l0_0.length c0_0,.slice A0_1 l0_1.length c0_1,.int .i64 a0_2,.int .i64 a0_3,.int .i64 a0_4]) (t:=26) ?hr ?_;(case hd => rfl);(case hg => rfl);(case hr => first|(go_simp;done)|(go_simp;rfl));intro gP hg wP hbox hb;have n0_:=Am (below_step (bL HB) hb);have n1_:=Am hbox;have n2_:=Am ((by rw [hg];exact below_size (bL HB) : w.heap.size ≤ gP));clear HB;have HB:=n0_;have BKP:=n1_;have GEP:=n2_;clear n0_ n1_ n2_ hb hbox hg;have hcP0:=cC_ BKP 0 rfl;have hcP1:=cC_ BKP 1 rfl;have hcP2:=cC_ BKP 2 rfl;have hcP3:=cC_ BKP 3 rfl;have hcP4:=cC_ BKP 4 rfl;have hfP0:=kF BKP.out 0;have hfP1:=kF BKP.out 1;have hfP2:=kF BKP.out 2;have hfP3:=kF BKP.out 3;have hfP4:=kF BKP.out 4)|((with_reducible refine gate_callee (f:=15) rfl ?_);(try (refine gate_guard (by rfl) ?_;dsimp only));refine goesL_ (some 9) rfl rfl Tryd.func15 (by kernel_rfl) rfl #[.agg #[.slice A0_0 l0_0.length c0_0,.slice A0_1 l0_1.length c0_1,.int .i64 a0_2,.int .i64 a0_3,.int .i64 a0_4]] rfl lA ?_;(with_reducible refine (impl_ProfileOk.calls _ _ l0_0 _ _ l0_1 a0_2 a0_3 a0_4 pv _ (Kd.C_below HR0_0.out (bL HB)) HC0_0.out (Kd.C_below HR0_1.out (bL HB)) HC0_1.out HPK.out).mono ?_);rintro e wQ ⟨rfl,hb⟩;refine ⟨_,rfl,?_⟩;have n0_:=Am (below_step (bL HB) hb);have n1_:=Am (kB_ BKP hb);clear HB BKP;have HB:=n0_;have BKP:=n1_;clear n0_ n1_ hb;clear hcP0 hfP0 hcP1 hfP1 hcP2 hfP2 hcP3 hfP3 hcP4 hfP4;have hcP0:=cC_ BKP 0 rfl;have hcP1:=cC_ BKP 1 rfl;have hcP2:=cC_ BKP 2 rfl;have hcP3:=cC_ BKP 3 rfl;have hcP4:=cC_ BKP 4 rfl;have hfP0:=kF BKP.out 0;have hfP1:=kF BKP.out 1;have hfP2:=kF BKP.out 2;have hfP3:=kF BKP.out 3;have hfP4:=kF BKP.out 4)|((with_reducible refine gate_dst (N:=3) rfl ?_);(try (refine gate_guard (by rfl) ?_;dsimp only));refine box_event ?hg (N:=3) ?hd (cs:=#[.pointer none,.slice none 0 0]) (t:=47) ?hr ?_;(case hd => rfl);(case hg => rfl);(case hr => first|(go_simp;done)|(go_simp;rfl));intro gB hg wB hbox hb;have HE:=Am (WE.start (pc:=#[.slice A0_0 l0_0.length c0_0,.slice A0_1 l0_1.length c0_1,.int .i64 a0_2,.int .i64 a0_3,.int .i64 a0_4]) (gP:=gP) (w:=w) (kL BKP) GEP.out (bL HB) HT.out hbox hg hb);clear HB BKP HT hb hbox hg;clear hcP0 hfP0 hcP1 hfP1 hcP2 hfP2 hcP3 hfP3 hcP4 hfP4;have hcP0 : wB.cell? ⟨gP,0,none⟩ = some (Value.slice A0_0 l0_0.length c0_0):=(kC HE.out.pb 0).trans rfl;have hcP1 : wB.cell? ⟨gP,1,none⟩ = some (Value.slice A0_1 l0_1.length c0_1):=(kC HE.out.pb 1).trans rfl;have hcP2 : wB.cell? ⟨gP,2,none⟩ = some (.int .i64 a0_2):=(kC HE.out.pb 2).trans rfl;have hcP3 : wB.cell? ⟨gP,3,none⟩ = some (.int .i64 a0_3):=(kC HE.out.pb 3).trans rfl;have hcP4 : wB.cell? ⟨gP,4,none⟩ = some (.int .i64 a0_4):=(kC HE.out.pb 4).trans rfl;have hfP0:=kF HE.out.pb 0;have hfP1:=kF HE.out.pb 1;have hfP2:=kF HE.out.pb 2;have hfP3:=kF HE.out.pb 3;have hfP4:=kF HE.out.pb 4))
 go_loopg [14] l0_0.length (fun kq v14 w' => ∃ (ix : Int),v14 = .int .i64 ix∧As (0 ≤ ix)∧As (ix + kq = l0_0.length)∧As (WE w w' #[.slice A0_0 l0_0.length c0_0,.slice A0_1 l0_1.length c0_1,.int .i64 a0_2,.int .i64 a0_3,.int .i64 a0_4] gP gB ((l0_0.take ix.toNat).flatMap pcT)))
 case atStart => exact ⟨0,vL_,⟨by omega⟩,⟨by omega⟩,⟨by show WE w _ _ gP gB [];(with_reducible repeat (first|refine WE.drewN ?_ _|refine WE.drew ?_|refine WE.alloc ?_ _));exact HE.out⟩⟩
 case round =>
  clear HE;clear hcP0 hfP0 hcP1 hfP1 hcP2 hfP2 hcP3 hfP3 hcP4 hfP4;obtain ⟨ix,rfl,H0,HK,HE⟩:=hrel;have hcP0 : wr.cell? ⟨gP,0,none⟩ = some (Value.slice A0_0 l0_0.length c0_0):=(kC HE.out.pb 0).trans rfl;have hcP1 : wr.cell? ⟨gP,1,none⟩ = some (Value.slice A0_1 l0_1.length c0_1):=(kC HE.out.pb 1).trans rfl;have hcP2 : wr.cell? ⟨gP,2,none⟩ = some (.int .i64 a0_2):=(kC HE.out.pb 2).trans rfl;have hcP3 : wr.cell? ⟨gP,3,none⟩ = some (.int .i64 a0_3):=(kC HE.out.pb 3).trans rfl;have hcP4 : wr.cell? ⟨gP,4,none⟩ = some (.int .i64 a0_4):=(kC HE.out.pb 4).trans rfl;have hfP0:=kF HE.out.pb 0;have hfP1:=kF HE.out.pb 1;have hfP2:=kF HE.out.pb 2;have hfP3:=kF HE.out.pb 3;have hfP4:=kF HE.out.pb 4
  cases gk with
  | succ k2 =>
   have q0 : 0 ≤ ix:=H0.out
   have q1 : ix < (l0_0.length : Int):=by have:=HK.out;omega
   have HM:=Am (getD_mem l0_0 ix.toNat z49 (by omega));have HX:=Am (show (ix + 1).toNat = ix.toNat + 1 by omega);have HLT:=Am (show ix.toNat < l0_0.length by omega);obtain ⟨ad,e,hx0,hx1⟩:=at_T49 HR0_0.out ix q0 q1;cases e;replace hx0:=(HE.out.bw.cell (World.block_lt_of_cell? w _ hx0)).trans hx0;replace hx1:=(HE.out.bw.cell (World.block_lt_of_cell? w _ hx1)).trans hx1
   obtain ⟨xx,hxx⟩ : ∃ xx,rd_T49 l0_0 ix = xx:=⟨_,rfl⟩
   rw [hxx] at hx0 hx1;have HXX:=Am (show l0_0.getD ix.toNat z49 = xx from hxx);have HOK:=HS.out.hp _ HM.out;rw [HXX.out] at HOK;clear hxx HM;obtain ⟨x0,x1⟩:=xx;simp only at hx0 hx1 HOK;obtain ⟨b0,b1⟩:=HOK
   obtain ⟨s0,hs0⟩ : ∃ s,numB x0 = s:=⟨_,rfl⟩
   have Z0:=Am (show s0.size ≤ 21 by rw [← hs0];exact numB_le _ b0.1 b0.2);have N0:=Am hs0;clear hs0;have B0:=Am b0
   obtain ⟨s1,hs1⟩ : ∃ s,numB x1 = s:=⟨_,rfl⟩
   have Z1:=Am (show s1.size ≤ 21 by rw [← hs1];exact numB_le _ b1.1 b1.2);have N1:=Am hs1;clear hs1;have B1:=Am b1;clear b0 b1;have HI:=Am (show wrap64 (ix + 1) = ix + 1 by have h6:=HK.out;have h0:=H0.out;have h5:=HS.out.n0;have h7:=HS.out.n1;unfold wrap64;omega)
   have y0 : 6 + s0.size ≤ 9223372036854775807:=by have Z0_:=Z0.out;have Z1_:=Z1.out;omega
   have y0b0:=eq_true y0;have y0b1 : decide (6 + s0.size ≤ 9223372036854775807) = true:=decide_eq_true y0;have y0b2 : (9223372036854775807 < 6 + s0.size) = False:=eq_false (Nat.not_lt.2 y0);clear y0
   have y1 : 6 + s0.size + 7 ≤ 9223372036854775807:=by have Z0_:=Z0.out;have Z1_:=Z1.out;omega
   have y1b0:=eq_true y1;have y1b1 : decide (6 + s0.size + 7 ≤ 9223372036854775807) = true:=decide_eq_true y1;have y1b2 : (9223372036854775807 < 6 + s0.size + 7) = False:=eq_false (Nat.not_lt.2 y1);clear y1
   have y2 : 6 + s0.size + 7 + s1.size ≤ 9223372036854775807:=by have Z0_:=Z0.out;have Z1_:=Z1.out;omega
   have y2b0:=eq_true y2;have y2b1 : decide (6 + s0.size + 7 + s1.size ≤ 9223372036854775807) = true:=decide_eq_true y2;have y2b2 : (9223372036854775807 < 6 + s0.size + 7 + s1.size) = False:=eq_false (Nat.not_lt.2 y2);clear y2
   have y3 : 6 + s0.size + 7 + s1.size + 1 ≤ 9223372036854775807:=by have Z0_:=Z0.out;have Z1_:=Z1.out;omega
   have y3b0:=eq_true y3;have y3b1 : decide (6 + s0.size + 7 + s1.size + 1 ≤ 9223372036854775807) = true:=decide_eq_true y3;have y3b2 : (9223372036854775807 < 6 + s0.size + 7 + s1.size + 1) = False:=eq_false (Nat.not_lt.2 y3);clear y3;have HLS:=Am (show (((((⟨#[116,114,97,99,107,32]⟩ : ByteArray) ++ s0) ++ (⟨#[32,98,114,97,107,101,32]⟩ : ByteArray)) ++ s1) ++ (⟨#[10]⟩ : ByteArray)).size ≤ 100 by have z0_:=Z0.out;have z1_:=Z1.out;simp only [ByteArray.size_append,size_lit];simp;omega);have q0b : decide (0 ≤ ix) = true:=decide_eq_true q0;have q1b : decide (ix < (l0_0.length : Int)) = true:=decide_eq_true q1;replace q0:=eq_true q0;replace q1:=eq_true q1
   go_wp2_with (first|((with_reducible refine gate_dst (N:=5) rfl ?_);(try (refine gate_guard (by rfl) ?_;dsimp only));refine box_event ?hg (N:=5) ?hd (cs:=#[.int .i64 0,.int .i64 0]) (t:=49) ?hr ?_;(case hd => rfl);(case hg => rfl);(case hr => first|(go_simp;done)|(go_simp;rfl));intro gX hg wX hbox hb;have HBX:=Am hb;have GEX:=Am (Nat.le_of_eq hg.symm);have BKX:=Am hbox;have n0_:=Am (WE.below (by (with_reducible repeat (first|refine WE.drewN ?_ _|refine WE.drew ?_|refine WE.alloc ?_ _));exact HE.out) hb);clear hcP0 hfP0 hcP1 hfP1 hcP2 hfP2 hcP3 hfP3 hcP4 hfP4;clear hg hbox hb;have hcX0:=cC_ BKX 0 rfl;have hfX0:=kF BKX.out 0;have hcX1:=cC_ BKX 1 rfl;have hfX1:=kF BKX.out 1))
   have n1_ : As (((wX.setCell ⟨gX,0,none⟩ (.int .i64 x0)).setCell ⟨gX,1,none⟩ (.int .i64 x1)).heap[gX]? = some (.cells #[.int .i64 x0,.int .i64 x1] 49 (0,0))):=⟨by refine blk_put (cs:=#[.int .i64 x0,.int .i64 0]) ?_ 1 _ rfl;refine blk_put (cs:=#[.int .i64 0,.int .i64 0]) ?_ 0 _ rfl;exact BKX.out⟩
   have n2_ : As (WE w ((wX.setCell ⟨gX,0,none⟩ (.int .i64 x0)).setCell ⟨gX,1,none⟩ (.int .i64 x1)) #[.slice (some ad) l0_0.length c0_0,.slice A0_1 l0_1.length c0_1,.int .i64 a0_2,.int .i64 a0_3,.int .i64 a0_4] gP gB ((l0_0.take ix.toNat).flatMap pcT)):=⟨WE.below (by (with_reducible repeat (first|refine WE.drewN ?_ _|refine WE.drew ?_|refine WE.alloc ?_ _));exact HE.out) ((HBX.out.setCell GEX.out _).setCell GEX.out _)⟩
   clear n0_ HE BKX HBX GEX hcX0 hfX0 hcX1 hfX1;generalize ((wX.setCell ⟨gX,0,none⟩ (.int .i64 x0)).setCell ⟨gX,1,none⟩ (.int .i64 x1)) = w21 at n1_ n2_ ⊢;have BKX:=Am (kD n1_.out);have HE:=Am (WE.drew n2_.out);clear n1_ n2_;refine start_ (n:=11) (S:=fun w' => w'.cell? ⟨gX,0,none⟩ = some (.int .i64 x0)∧w'.cell? ⟨gX,1,none⟩ = some (.int .i64 x1)) (ds:=[10]) #[false,false,false,false,false,false,false,false,false,false,false] (by kernel_rfl) rfl rfl ⟨cC_ BKX 0 rfl,cC_ BKX 1 rfl⟩ (fun hHeld => ?_);refine with_tabW impl_WriteProfile.tab7 impl_WriteProfile.bits7 (fun HT_ HW_ => ?_);generalize w21.drew = w22 at HE BKX hHeld ⊢;refine pure_ (i:=0) (N:=some 18) (v:=?_) (a':=?_) #[true,false,false,false,false,false,false,false,false,false,false] rfl rfl (any_of HT_.out (by kernel_rfl)) (fun _ _ _ h => h) (Or.inl ⟨by rfl,?_⟩) ?_ ?_;rotate_left
   ·intro w'
    go_simp
    with_reducible rfl
   rotate_left
   ·simp only [Act.put,pS]
    rfl
   refine pure_ (i:=5) (N:=some 23) (v:=?_) (a':=?_) #[true,false,false,false,false,true,false,false,false,false,false] rfl rfl (any_of HT_.out (by kernel_rfl)) (fun _ _ _ h => h) (Or.inl ⟨by rfl,?_⟩) ?_ ?_;rotate_left
   ·intro w'
    go_simp
    with_reducible rfl
   rotate_left
   ·simp only [Act.put,pS]
    rfl
   refine take_ (i:=1) (N:=some 19) (v:=?_) (a':=?_) #[true,true,false,false,false,true,false,false,false,false,false] rfl rfl (take_ofW HT_.out HW_.out (by kernel_rfl)) (fun _ _ _ h => h) (Or.inl ⟨by rfl,?_⟩) hHeld ?_ ?_;rotate_left
   ·rintro w' ⟨s0,s1⟩
    go_simp
    with_reducible rfl
   rotate_left
   ·simp only [Act.put,pS]
    rfl
   refine take_ (i:=6) (N:=some 24) (v:=?_) (a':=?_) #[true,true,false,false,false,true,true,false,false,false,false] rfl rfl (take_ofW HT_.out HW_.out (by kernel_rfl)) (fun _ _ _ h => h) (Or.inl ⟨by rfl,?_⟩) hHeld ?_ ?_;rotate_left
   ·rintro w' ⟨s0,s1⟩
    go_simp
    with_reducible rfl
   rotate_left
   ·simp only [Act.put,pS]
    rfl
   refine one_ (i:=2) (N:=some 20) #[true,true,true,false,false,true,true,false,false,false,false] rfl rfl (one_of HT_.out (by kernel_rfl)) (by decide) (fun K hK => ?_);refine goes_ Tryd.func17 (by kernel_rfl) rfl #[.int .i64 x0] (by rfl) rfl rfl lA ?_
   with_reducible refine (WE.itoa HE.out x0 B0.out.1 B0.out.2).mono ?_
   rintro e w30 ⟨rfl,hb⟩;refine ⟨_,rfl,?_⟩;rw [N0.out];have n0_:=Am (WE.below HE.out hb);have n1_:=Am (blk_below (g:=gX) (o:=.cells #[.int .i64 x0,.int .i64 x1] 49 (0,0)) BKX.out hb);clear HE BKX;have HE:=n0_;have BKX:=n1_;clear n0_ n1_;(try clear hb);refine hK.out _ _ ⟨cC_ BKX 0 rfl,cC_ BKX 1 rfl⟩ (fun hHeld => ?_);clear hK K;refine norm_ (a':=?_) ?_ ?_;rotate_left
   ·show Act.put _ (some 20) _ = _
    simp only [Act.put,pS]
    rfl
   refine pure_ (i:=3) (N:=some 21) (v:=?_) (a':=?_) #[true,true,true,true,false,true,true,false,false,false,false] rfl rfl (any_of HT_.out (by kernel_rfl)) (fun _ _ _ h => h) (Or.inl ⟨by rfl,?_⟩) ?_ ?_;rotate_left
   ·intro w'
    go_simp
    with_reducible rfl
   rotate_left
   ·simp only [Act.put,pS]
    rfl
   refine pure_ (i:=4) (N:=some 22) (v:=?_) (a':=?_) #[true,true,true,true,true,true,true,false,false,false,false] rfl rfl (any_of HT_.out (by kernel_rfl)) (fun _ _ _ h => h) (Or.inl ⟨by rfl,?_⟩) ?_ ?_;rotate_left
   ·intro w'
    go_simp
    with_reducible rfl
   rotate_left
   ·simp only [Act.put,pS]
    rfl
   refine one_ (i:=7) (N:=some 25) #[true,true,true,true,true,true,true,true,false,false,false] rfl rfl (one_of HT_.out (by kernel_rfl)) (by decide) (fun K hK => ?_);refine goes_ Tryd.func17 (by kernel_rfl) rfl #[.int .i64 x1] (by rfl) rfl rfl lA ?_
   with_reducible refine (WE.itoa HE.out x1 B1.out.1 B1.out.2).mono ?_
   rintro e w31 ⟨rfl,hb⟩;refine ⟨_,rfl,?_⟩;rw [N1.out];have n0_:=Am (WE.below HE.out hb);have n1_:=Am (blk_below (g:=gX) (o:=.cells #[.int .i64 x0,.int .i64 x1] 49 (0,0)) BKX.out hb);clear HE BKX;have HE:=n0_;have BKX:=n1_;clear n0_ n1_;(try clear hb);refine hK.out _ _ ⟨cC_ BKX 0 rfl,cC_ BKX 1 rfl⟩ (fun hHeld => ?_);clear hK K;refine norm_ (a':=?_) ?_ ?_;rotate_left
   ·show Act.put _ (some 25) _ = _
    simp only [Act.put,pS]
    rfl
   refine pure_ (i:=8) (N:=some 26) (v:=?_) (a':=?_) #[true,true,true,true,true,true,true,true,true,false,false] rfl rfl (any_of HT_.out (by kernel_rfl)) (fun _ _ _ h => h) (Or.inl ⟨by rfl,?_⟩) ?_ ?_;rotate_left
   ·intro w'
    go_simp
    with_reducible rfl
   rotate_left
   ·simp only [Act.put,pS]
    rfl
   refine pure_ (i:=9) (N:=some 27) (v:=?_) (a':=?_) #[true,true,true,true,true,true,true,true,true,true,false] rfl rfl (any_of HT_.out (by kernel_rfl)) (fun _ _ _ h => h) (Or.inl ⟨by rfl,?_⟩) ?_ ?_;rotate_left
   ·intro w'
    go_simp
    with_reducible rfl
   rotate_left
   ·simp only [Act.put,pS]
    rfl
   refine last_ (i:=10) (N:=some 28) #[true,true,true,true,true,true,true,true,true,true,true] rfl rfl (one_of HT_.out (by kernel_rfl)) (by decide) (fun K hK => ?_);refine goes_ Tryd.func16 (by kernel_rfl) rfl #[.pointer (some ⟨gB,0,none⟩),.string (((((⟨#[116,114,97,99,107,32]⟩ : ByteArray) ++ s0) ++ (⟨#[32,98,114,97,107,101,32]⟩ : ByteArray)) ++ s1) ++ (⟨#[10]⟩ : ByteArray))] (by rfl) rfl rfl lA ?_
   with_reducible refine (WE.write HE.out (((((⟨#[116,114,97,99,107,32]⟩ : ByteArray) ++ s0) ++ (⟨#[32,98,114,97,107,101,32]⟩ : ByteArray)) ++ s1) ++ (⟨#[10]⟩ : ByteArray)) (by have h1:=HLS.out;have h2:=HS.out.pl ix.toNat;have h3:=HS.out.zl ix.toNat;(try rw [List.take_length] at h2);(try simp only [List.length_append]);omega)).mono ?_
   rintro e w40 ⟨rfl,hE⟩;refine ⟨_,rfl,?_⟩;have HE1:=Am hE;clear HE hE;have HE:=HE1;clear HE1;refine hK.out _ _ ?_;clear hK K;refine norm_ (a':=?_) ?_ ?_;rotate_left
   ·show Act.put _ (some 28) _ = _
    simp only [Act.put,pS]
    rfl
   refine done_ (done_of HT_.out (by kernel_rfl)) ?_;clear BKX
   try go_wp2
   go_roundg k2
   case measure => omega
   case rel =>
    have HN:=Am (show (l0_0.take (ix + 1).toNat).flatMap pcT = ((l0_0.take ix.toNat).flatMap pcT) ++ ((((((⟨#[116,114,97,99,107,32]⟩ : ByteArray) ++ s0) ++ (⟨#[32,98,114,97,107,101,32]⟩ : ByteArray)) ++ s1) ++ (⟨#[10]⟩ : ByteArray)) : ByteArray).data.toList by rw [HX.out,take_flat l0_0 pcT ix.toNat z49 _ HLT.out HXX.out];simp only [pcT,pcB,N0.out,N1.out,List.append_assoc]);refine ⟨ix + 1,(by rw [HI.out]),⟨by have:=H0.out;omega⟩,⟨by have:=HK.out;omega⟩,⟨?_⟩⟩;rw [HN.out];exact (by (with_reducible repeat (first|refine WE.drewN ?_ _|refine WE.drew ?_|refine WE.alloc ?_ _));exact HE.out)
  | zero =>
   have HN:=Am (show l0_0.take ix.toNat = l0_0 from List.take_of_length_le (by have:=HK.out;omega));have n0_:=HE;rw [HN.out] at n0_;clear HE;have HE:=n0_;clear n0_ HN;have q1b : decide (ix < (l0_0.length : Int)) = false:=decide_eq_false (by have:=HK.out;omega);go_wp2;clear q1b H0 HK
   go_loopg [33] l0_1.length (fun kq v33 w' => ∃ (ix : Int),v33 = .int .i64 ix∧As (0 ≤ ix)∧As (ix + kq = l0_1.length)∧As (WE w w' #[.slice A0_0 l0_0.length c0_0,.slice A0_1 l0_1.length c0_1,.int .i64 a0_2,.int .i64 a0_3,.int .i64 a0_4] gP gB (l0_0.flatMap pcT ++ (l0_1.take ix.toNat).flatMap znT)))
   case atStart => exact ⟨0,vL_,⟨by omega⟩,⟨by omega⟩,⟨by rw [show (0 : Int).toNat = 0 from rfl,List.take_zero,List.flatMap_nil,List.append_nil];exact (by (with_reducible repeat (first|refine WE.drewN ?_ _|refine WE.drew ?_|refine WE.alloc ?_ _));exact HE.out)⟩⟩
   case round =>
    clear HE;clear hcP0 hfP0 hcP1 hfP1 hcP2 hfP2 hcP3 hfP3 hcP4 hfP4;obtain ⟨ix,rfl,H0,HK,HE⟩:=hrel;have hcP0 : wr.cell? ⟨gP,0,none⟩ = some (Value.slice A0_0 l0_0.length c0_0):=(kC HE.out.pb 0).trans rfl;have hcP1 : wr.cell? ⟨gP,1,none⟩ = some (Value.slice A0_1 l0_1.length c0_1):=(kC HE.out.pb 1).trans rfl;have hcP2 : wr.cell? ⟨gP,2,none⟩ = some (.int .i64 a0_2):=(kC HE.out.pb 2).trans rfl;have hcP3 : wr.cell? ⟨gP,3,none⟩ = some (.int .i64 a0_3):=(kC HE.out.pb 3).trans rfl;have hcP4 : wr.cell? ⟨gP,4,none⟩ = some (.int .i64 a0_4):=(kC HE.out.pb 4).trans rfl;have hfP0:=kF HE.out.pb 0;have hfP1:=kF HE.out.pb 1;have hfP2:=kF HE.out.pb 2;have hfP3:=kF HE.out.pb 3;have hfP4:=kF HE.out.pb 4
    cases gk with
    | succ k2 =>
     have q0 : 0 ≤ ix:=H0.out
     have q1 : ix < (l0_1.length : Int):=by have:=HK.out;omega
     have HM:=Am (getD_mem l0_1 ix.toNat z56 (by omega));have HX:=Am (show (ix + 1).toNat = ix.toNat + 1 by omega);have HLT:=Am (show ix.toNat < l0_1.length by omega);obtain ⟨ad,e,hx0,hx1,hx2⟩:=at_T56 HR0_1.out ix q0 q1;cases e;replace hx0:=(HE.out.bw.cell (World.block_lt_of_cell? w _ hx0)).trans hx0;replace hx1:=(HE.out.bw.cell (World.block_lt_of_cell? w _ hx1)).trans hx1;replace hx2:=(HE.out.bw.cell (World.block_lt_of_cell? w _ hx2)).trans hx2
     obtain ⟨xx,hxx⟩ : ∃ xx,rd_T56 l0_1 ix = xx:=⟨_,rfl⟩
     rw [hxx] at hx0 hx1 hx2;have HXX:=Am (show l0_1.getD ix.toNat z56 = xx from hxx);have HOK:=HS.out.hz _ HM.out;rw [HXX.out] at HOK;clear hxx HM;obtain ⟨x0,x1,x2⟩:=xx;simp only at hx0 hx1 hx2 HOK;obtain ⟨b0,b1,b2⟩:=HOK
     obtain ⟨s0,hs0⟩ : ∃ s,numB x0 = s:=⟨_,rfl⟩
     have Z0:=Am (show s0.size ≤ 21 by rw [← hs0];exact numB_le _ b0.1 b0.2);have N0:=Am hs0;clear hs0;have B0:=Am b0
     obtain ⟨s1,hs1⟩ : ∃ s,numB x1 = s:=⟨_,rfl⟩
     have Z1:=Am (show s1.size ≤ 21 by rw [← hs1];exact numB_le _ b1.1 b1.2);have N1:=Am hs1;clear hs1;have B1:=Am b1
     obtain ⟨s2,hs2⟩ : ∃ s,numB x2 = s:=⟨_,rfl⟩
     have Z2:=Am (show s2.size ≤ 21 by rw [← hs2];exact numB_le _ b2.1 b2.2);have N2:=Am hs2;clear hs2;have B2:=Am b2;clear b0 b1 b2;have HI:=Am (show wrap64 (ix + 1) = ix + 1 by have h6:=HK.out;have h0:=H0.out;have h5:=HS.out.n0;have h7:=HS.out.n1;unfold wrap64;omega)
     have y0 : 6 + s0.size ≤ 9223372036854775807:=by have Z0_:=Z0.out;have Z1_:=Z1.out;have Z2_:=Z2.out;omega
     have y0b0:=eq_true y0;have y0b1 : decide (6 + s0.size ≤ 9223372036854775807) = true:=decide_eq_true y0;have y0b2 : (9223372036854775807 < 6 + s0.size) = False:=eq_false (Nat.not_lt.2 y0);clear y0
     have y1 : 6 + s0.size + 1 ≤ 9223372036854775807:=by have Z0_:=Z0.out;have Z1_:=Z1.out;have Z2_:=Z2.out;omega
     have y1b0:=eq_true y1;have y1b1 : decide (6 + s0.size + 1 ≤ 9223372036854775807) = true:=decide_eq_true y1;have y1b2 : (9223372036854775807 < 6 + s0.size + 1) = False:=eq_false (Nat.not_lt.2 y1);clear y1
     have y2 : 6 + s0.size + 1 + s1.size ≤ 9223372036854775807:=by have Z0_:=Z0.out;have Z1_:=Z1.out;have Z2_:=Z2.out;omega
     have y2b0:=eq_true y2;have y2b1 : decide (6 + s0.size + 1 + s1.size ≤ 9223372036854775807) = true:=decide_eq_true y2;have y2b2 : (9223372036854775807 < 6 + s0.size + 1 + s1.size) = False:=eq_false (Nat.not_lt.2 y2);clear y2
     have y3 : 6 + s0.size + 1 + s1.size + 1 ≤ 9223372036854775807:=by have Z0_:=Z0.out;have Z1_:=Z1.out;have Z2_:=Z2.out;omega
     have y3b0:=eq_true y3;have y3b1 : decide (6 + s0.size + 1 + s1.size + 1 ≤ 9223372036854775807) = true:=decide_eq_true y3;have y3b2 : (9223372036854775807 < 6 + s0.size + 1 + s1.size + 1) = False:=eq_false (Nat.not_lt.2 y3);clear y3
     have y4 : 6 + s0.size + 1 + s1.size + 1 + s2.size ≤ 9223372036854775807:=by have Z0_:=Z0.out;have Z1_:=Z1.out;have Z2_:=Z2.out;omega
     have y4b0:=eq_true y4;have y4b1 : decide (6 + s0.size + 1 + s1.size + 1 + s2.size ≤ 9223372036854775807) = true:=decide_eq_true y4;have y4b2 : (9223372036854775807 < 6 + s0.size + 1 + s1.size + 1 + s2.size) = False:=eq_false (Nat.not_lt.2 y4);clear y4
     have y5 : 6 + s0.size + 1 + s1.size + 1 + s2.size + 1 ≤ 9223372036854775807:=by have Z0_:=Z0.out;have Z1_:=Z1.out;have Z2_:=Z2.out;omega
     have y5b0:=eq_true y5;have y5b1 : decide (6 + s0.size + 1 + s1.size + 1 + s2.size + 1 ≤ 9223372036854775807) = true:=decide_eq_true y5;have y5b2 : (9223372036854775807 < 6 + s0.size + 1 + s1.size + 1 + s2.size + 1) = False:=eq_false (Nat.not_lt.2 y5);clear y5;have HLS:=Am (show (((((((⟨#[108,105,109,105,116,32]⟩ : ByteArray) ++ s0) ++ (⟨#[32]⟩ : ByteArray)) ++ s1) ++ (⟨#[32]⟩ : ByteArray)) ++ s2) ++ (⟨#[10]⟩ : ByteArray)).size ≤ 100 by have z0_:=Z0.out;have z1_:=Z1.out;have z2_:=Z2.out;simp only [ByteArray.size_append,size_lit];simp;omega);have q0b : decide (0 ≤ ix) = true:=decide_eq_true q0;have q1b : decide (ix < (l0_1.length : Int)) = true:=decide_eq_true q1;replace q0:=eq_true q0;replace q1:=eq_true q1
     go_wp2_with (first|((with_reducible refine gate_dst (N:=7) rfl ?_);(try (refine gate_guard (by rfl) ?_;dsimp only));refine box_event ?hg (N:=7) ?hd (cs:=#[.int .i64 0,.int .i64 0,.int .i64 0]) (t:=56) ?hr ?_;(case hd => rfl);(case hg => rfl);(case hr => first|(go_simp;done)|(go_simp;rfl));intro gX hg wX hbox hb;have HBX:=Am hb;have GEX:=Am (Nat.le_of_eq hg.symm);have BKX:=Am hbox;have n0_:=Am (WE.below (by (with_reducible repeat (first|refine WE.drewN ?_ _|refine WE.drew ?_|refine WE.alloc ?_ _));exact HE.out) hb);clear hcP0 hfP0 hcP1 hfP1 hcP2 hfP2 hcP3 hfP3 hcP4 hfP4;clear hg hbox hb;have hcX0:=cC_ BKX 0 rfl;have hfX0:=kF BKX.out 0;have hcX1:=cC_ BKX 1 rfl;have hfX1:=kF BKX.out 1;have hcX2:=cC_ BKX 2 rfl;have hfX2:=kF BKX.out 2))
     have n1_ : As ((((wX.setCell ⟨gX,0,none⟩ (.int .i64 x0)).setCell ⟨gX,1,none⟩ (.int .i64 x1)).setCell ⟨gX,2,none⟩ (.int .i64 x2)).heap[gX]? = some (.cells #[.int .i64 x0,.int .i64 x1,.int .i64 x2] 56 (0,0))):=⟨by refine blk_put (cs:=#[.int .i64 x0,.int .i64 x1,.int .i64 0]) ?_ 2 _ rfl;refine blk_put (cs:=#[.int .i64 x0,.int .i64 0,.int .i64 0]) ?_ 1 _ rfl;refine blk_put (cs:=#[.int .i64 0,.int .i64 0,.int .i64 0]) ?_ 0 _ rfl;exact BKX.out⟩
     have n2_ : As (WE w (((wX.setCell ⟨gX,0,none⟩ (.int .i64 x0)).setCell ⟨gX,1,none⟩ (.int .i64 x1)).setCell ⟨gX,2,none⟩ (.int .i64 x2)) #[.slice A0_0 l0_0.length c0_0,.slice (some ad) l0_1.length c0_1,.int .i64 a0_2,.int .i64 a0_3,.int .i64 a0_4] gP gB (l0_0.flatMap pcT ++ (l0_1.take ix.toNat).flatMap znT)):=⟨WE.below (by (with_reducible repeat (first|refine WE.drewN ?_ _|refine WE.drew ?_|refine WE.alloc ?_ _));exact HE.out) (((HBX.out.setCell GEX.out _).setCell GEX.out _).setCell GEX.out _)⟩
     clear n0_ HE BKX HBX GEX hcX0 hfX0 hcX1 hfX1 hcX2 hfX2;generalize (((wX.setCell ⟨gX,0,none⟩ (.int .i64 x0)).setCell ⟨gX,1,none⟩ (.int .i64 x1)).setCell ⟨gX,2,none⟩ (.int .i64 x2)) = w21 at n1_ n2_ ⊢;have BKX:=Am (kD n1_.out);have HE:=Am (WE.drew n2_.out);clear n1_ n2_;refine start_ (n:=16) (S:=fun w' => w'.cell? ⟨gX,0,none⟩ = some (.int .i64 x0)∧w'.cell? ⟨gX,1,none⟩ = some (.int .i64 x1)∧w'.cell? ⟨gX,2,none⟩ = some (.int .i64 x2)) (ds:=[15]) #[false,false,false,false,false,false,false,false,false,false,false,false,false,false,false,false] (by kernel_rfl) rfl rfl ⟨cC_ BKX 0 rfl,cC_ BKX 1 rfl,cC_ BKX 2 rfl⟩ (fun hHeld => ?_);refine with_tabW impl_WriteProfile.tab12 impl_WriteProfile.bits12 (fun HT_ HW_ => ?_);generalize w21.drew = w22 at HE BKX hHeld ⊢;refine pure_ (i:=0) (N:=some 37) (v:=?_) (a':=?_) #[true,false,false,false,false,false,false,false,false,false,false,false,false,false,false,false] rfl rfl (any_of HT_.out (by kernel_rfl)) (fun _ _ _ h => h) (Or.inl ⟨by rfl,?_⟩) ?_ ?_;rotate_left
     ·intro w'
      go_simp
      with_reducible rfl
     rotate_left
     ·simp only [Act.put,pS]
      rfl
     refine pure_ (i:=5) (N:=some 42) (v:=?_) (a':=?_) #[true,false,false,false,false,true,false,false,false,false,false,false,false,false,false,false] rfl rfl (any_of HT_.out (by kernel_rfl)) (fun _ _ _ h => h) (Or.inl ⟨by rfl,?_⟩) ?_ ?_;rotate_left
     ·intro w'
      go_simp
      with_reducible rfl
     rotate_left
     ·simp only [Act.put,pS]
      rfl
     refine pure_ (i:=10) (N:=some 47) (v:=?_) (a':=?_) #[true,false,false,false,false,true,false,false,false,false,true,false,false,false,false,false] rfl rfl (any_of HT_.out (by kernel_rfl)) (fun _ _ _ h => h) (Or.inl ⟨by rfl,?_⟩) ?_ ?_;rotate_left
     ·intro w'
      go_simp
      with_reducible rfl
     rotate_left
     ·simp only [Act.put,pS]
      rfl
     refine take_ (i:=1) (N:=some 38) (v:=?_) (a':=?_) #[true,true,false,false,false,true,false,false,false,false,true,false,false,false,false,false] rfl rfl (take_ofW HT_.out HW_.out (by kernel_rfl)) (fun _ _ _ h => h) (Or.inl ⟨by rfl,?_⟩) hHeld ?_ ?_;rotate_left
     ·rintro w' ⟨s0,s1,s2⟩
      go_simp
      with_reducible rfl
     rotate_left
     ·simp only [Act.put,pS]
      rfl
     refine take_ (i:=6) (N:=some 43) (v:=?_) (a':=?_) #[true,true,false,false,false,true,true,false,false,false,true,false,false,false,false,false] rfl rfl (take_ofW HT_.out HW_.out (by kernel_rfl)) (fun _ _ _ h => h) (Or.inl ⟨by rfl,?_⟩) hHeld ?_ ?_;rotate_left
     ·rintro w' ⟨s0,s1,s2⟩
      go_simp
      with_reducible rfl
     rotate_left
     ·simp only [Act.put,pS]
      rfl
     refine take_ (i:=11) (N:=some 48) (v:=?_) (a':=?_) #[true,true,false,false,false,true,true,false,false,false,true,true,false,false,false,false] rfl rfl (take_ofW HT_.out HW_.out (by kernel_rfl)) (fun _ _ _ h => h) (Or.inl ⟨by rfl,?_⟩) hHeld ?_ ?_;rotate_left
     ·rintro w' ⟨s0,s1,s2⟩
      go_simp
      with_reducible rfl
     rotate_left
     ·simp only [Act.put,pS]
      rfl
     refine one_ (i:=2) (N:=some 39) #[true,true,true,false,false,true,true,false,false,false,true,true,false,false,false,false] rfl rfl (one_of HT_.out (by kernel_rfl)) (by decide) (fun K hK => ?_);refine goes_ Tryd.func17 (by kernel_rfl) rfl #[.int .i64 x0] (by rfl) rfl rfl lA ?_
     with_reducible refine (WE.itoa HE.out x0 B0.out.1 B0.out.2).mono ?_
     rintro e w30 ⟨rfl,hb⟩;refine ⟨_,rfl,?_⟩;rw [N0.out];have n0_:=Am (WE.below HE.out hb);have n1_:=Am (blk_below (g:=gX) (o:=.cells #[.int .i64 x0,.int .i64 x1,.int .i64 x2] 56 (0,0)) BKX.out hb);clear HE BKX;have HE:=n0_;have BKX:=n1_;clear n0_ n1_;(try clear hb);refine hK.out _ _ ⟨cC_ BKX 0 rfl,cC_ BKX 1 rfl,cC_ BKX 2 rfl⟩ (fun hHeld => ?_);clear hK K;refine norm_ (a':=?_) ?_ ?_;rotate_left
     ·show Act.put _ (some 39) _ = _
      simp only [Act.put,pS]
      rfl
     refine pure_ (i:=3) (N:=some 40) (v:=?_) (a':=?_) #[true,true,true,true,false,true,true,false,false,false,true,true,false,false,false,false] rfl rfl (any_of HT_.out (by kernel_rfl)) (fun _ _ _ h => h) (Or.inl ⟨by rfl,?_⟩) ?_ ?_;rotate_left
     ·intro w'
      go_simp
      with_reducible rfl
     rotate_left
     ·simp only [Act.put,pS]
      rfl
     refine pure_ (i:=4) (N:=some 41) (v:=?_) (a':=?_) #[true,true,true,true,true,true,true,false,false,false,true,true,false,false,false,false] rfl rfl (any_of HT_.out (by kernel_rfl)) (fun _ _ _ h => h) (Or.inl ⟨by rfl,?_⟩) ?_ ?_;rotate_left
     ·intro w'
      go_simp
      with_reducible rfl
     rotate_left
     ·simp only [Act.put,pS]
      rfl
     refine one_ (i:=7) (N:=some 44) #[true,true,true,true,true,true,true,true,false,false,true,true,false,false,false,false] rfl rfl (one_of HT_.out (by kernel_rfl)) (by decide) (fun K hK => ?_);refine goes_ Tryd.func17 (by kernel_rfl) rfl #[.int .i64 x1] (by rfl) rfl rfl lA ?_
     with_reducible refine (WE.itoa HE.out x1 B1.out.1 B1.out.2).mono ?_
     rintro e w31 ⟨rfl,hb⟩;refine ⟨_,rfl,?_⟩;rw [N1.out];have n0_:=Am (WE.below HE.out hb);have n1_:=Am (blk_below (g:=gX) (o:=.cells #[.int .i64 x0,.int .i64 x1,.int .i64 x2] 56 (0,0)) BKX.out hb);clear HE BKX;have HE:=n0_;have BKX:=n1_;clear n0_ n1_;(try clear hb);refine hK.out _ _ ⟨cC_ BKX 0 rfl,cC_ BKX 1 rfl,cC_ BKX 2 rfl⟩ (fun hHeld => ?_);clear hK K;refine norm_ (a':=?_) ?_ ?_;rotate_left
     ·show Act.put _ (some 44) _ = _
      simp only [Act.put,pS]
      rfl
     refine pure_ (i:=8) (N:=some 45) (v:=?_) (a':=?_) #[true,true,true,true,true,true,true,true,true,false,true,true,false,false,false,false] rfl rfl (any_of HT_.out (by kernel_rfl)) (fun _ _ _ h => h) (Or.inl ⟨by rfl,?_⟩) ?_ ?_;rotate_left
     ·intro w'
      go_simp
      with_reducible rfl
     rotate_left
     ·simp only [Act.put,pS]
      rfl
     refine pure_ (i:=9) (N:=some 46) (v:=?_) (a':=?_) #[true,true,true,true,true,true,true,true,true,true,true,true,false,false,false,false] rfl rfl (any_of HT_.out (by kernel_rfl)) (fun _ _ _ h => h) (Or.inl ⟨by rfl,?_⟩) ?_ ?_;rotate_left
     ·intro w'
      go_simp
      with_reducible rfl
     rotate_left
     ·simp only [Act.put,pS]
      rfl
     refine one_ (i:=12) (N:=some 49) #[true,true,true,true,true,true,true,true,true,true,true,true,true,false,false,false] rfl rfl (one_of HT_.out (by kernel_rfl)) (by decide) (fun K hK => ?_);refine goes_ Tryd.func17 (by kernel_rfl) rfl #[.int .i64 x2] (by rfl) rfl rfl lA ?_
     with_reducible refine (WE.itoa HE.out x2 B2.out.1 B2.out.2).mono ?_
     rintro e w32 ⟨rfl,hb⟩;refine ⟨_,rfl,?_⟩;rw [N2.out];have n0_:=Am (WE.below HE.out hb);have n1_:=Am (blk_below (g:=gX) (o:=.cells #[.int .i64 x0,.int .i64 x1,.int .i64 x2] 56 (0,0)) BKX.out hb);clear HE BKX;have HE:=n0_;have BKX:=n1_;clear n0_ n1_;(try clear hb);refine hK.out _ _ ⟨cC_ BKX 0 rfl,cC_ BKX 1 rfl,cC_ BKX 2 rfl⟩ (fun hHeld => ?_);clear hK K;refine norm_ (a':=?_) ?_ ?_;rotate_left
     ·show Act.put _ (some 49) _ = _
      simp only [Act.put,pS]
      rfl
     refine pure_ (i:=13) (N:=some 50) (v:=?_) (a':=?_) #[true,true,true,true,true,true,true,true,true,true,true,true,true,true,false,false] rfl rfl (any_of HT_.out (by kernel_rfl)) (fun _ _ _ h => h) (Or.inl ⟨by rfl,?_⟩) ?_ ?_;rotate_left
     ·intro w'
      go_simp
      with_reducible rfl
     rotate_left
     ·simp only [Act.put,pS]
      rfl
     refine pure_ (i:=14) (N:=some 51) (v:=?_) (a':=?_) #[true,true,true,true,true,true,true,true,true,true,true,true,true,true,true,false] rfl rfl (any_of HT_.out (by kernel_rfl)) (fun _ _ _ h => h) (Or.inl ⟨by rfl,?_⟩) ?_ ?_;rotate_left
     ·intro w'
      go_simp
      with_reducible rfl
     rotate_left
     ·simp only [Act.put,pS]
      rfl
     refine last_ (i:=15) (N:=some 52) #[true,true,true,true,true,true,true,true,true,true,true,true,true,true,true,true] rfl rfl (one_of HT_.out (by kernel_rfl)) (by decide) (fun K hK => ?_);refine goes_ Tryd.func16 (by kernel_rfl) rfl #[.pointer (some ⟨gB,0,none⟩),.string (((((((⟨#[108,105,109,105,116,32]⟩ : ByteArray) ++ s0) ++ (⟨#[32]⟩ : ByteArray)) ++ s1) ++ (⟨#[32]⟩ : ByteArray)) ++ s2) ++ (⟨#[10]⟩ : ByteArray))] (by rfl) rfl rfl lA ?_
     with_reducible refine (WE.write HE.out (((((((⟨#[108,105,109,105,116,32]⟩ : ByteArray) ++ s0) ++ (⟨#[32]⟩ : ByteArray)) ++ s1) ++ (⟨#[32]⟩ : ByteArray)) ++ s2) ++ (⟨#[10]⟩ : ByteArray)) (by have h1:=HLS.out;have h2:=HS.out.pl l0_0.length;have h3:=HS.out.zl ix.toNat;(try rw [List.take_length] at h2);(try simp only [List.length_append]);omega)).mono ?_
     rintro e w40 ⟨rfl,hE⟩;refine ⟨_,rfl,?_⟩;have HE1:=Am hE;clear HE hE;have HE:=HE1;clear HE1;refine hK.out _ _ ?_;clear hK K;refine norm_ (a':=?_) ?_ ?_;rotate_left
     ·show Act.put _ (some 52) _ = _
      simp only [Act.put,pS]
      rfl
     refine done_ (done_of HT_.out (by kernel_rfl)) ?_;clear BKX
     try go_wp2
     go_roundg k2
     case measure => omega
     case rel =>
      have HN:=Am (show l0_0.flatMap pcT ++ (l0_1.take (ix + 1).toNat).flatMap znT = (l0_0.flatMap pcT ++ (l0_1.take ix.toNat).flatMap znT) ++ ((((((((⟨#[108,105,109,105,116,32]⟩ : ByteArray) ++ s0) ++ (⟨#[32]⟩ : ByteArray)) ++ s1) ++ (⟨#[32]⟩ : ByteArray)) ++ s2) ++ (⟨#[10]⟩ : ByteArray)) : ByteArray).data.toList by rw [HX.out,take_flat l0_1 znT ix.toNat z56 _ HLT.out HXX.out];simp only [znT,znB,N0.out,N1.out,N2.out,List.append_assoc]);refine ⟨ix + 1,(by rw [HI.out]),⟨by have:=H0.out;omega⟩,⟨by have:=HK.out;omega⟩,⟨?_⟩⟩;rw [HN.out];exact (by (with_reducible repeat (first|refine WE.drewN ?_ _|refine WE.drew ?_|refine WE.alloc ?_ _));exact HE.out)
    | zero =>
     have HN:=Am (show l0_1.take ix.toNat = l0_1 from List.take_of_length_le (by have:=HK.out;omega));have n0_:=HE;rw [HN.out] at n0_;clear HE;have HE:=n0_;clear n0_ HN;have q1b : decide (ix < (l0_1.length : Int)) = false:=decide_eq_false (by have:=HK.out;omega)
     obtain ⟨s0,hs0⟩ : ∃ s,numB a0_2 = s:=⟨_,rfl⟩
     have Z0:=Am (show s0.size ≤ 21 by rw [← hs0];exact numB_le _ HS.out.ht.1 HS.out.ht.2);have N0:=Am hs0;clear hs0
     obtain ⟨s1,hs1⟩ : ∃ s,numB a0_3 = s:=⟨_,rfl⟩
     have Z1:=Am (show s1.size ≤ 21 by rw [← hs1];exact numB_le _ HS.out.he.1 HS.out.he.2);have N1:=Am hs1;clear hs1
     obtain ⟨s2,hs2⟩ : ∃ s,numB a0_4 = s:=⟨_,rfl⟩
     have Z2:=Am (show s2.size ≤ 21 by rw [← hs2];exact numB_le _ HS.out.hd.1 HS.out.hd.2);have N2:=Am hs2;clear hs2
     have y0 : 6 + s0.size ≤ 9223372036854775807:=by have Z0_:=Z0.out;have Z1_:=Z1.out;have Z2_:=Z2.out;omega
     have y0b0:=eq_true y0;have y0b1 : decide (6 + s0.size ≤ 9223372036854775807) = true:=decide_eq_true y0;have y0b2 : (9223372036854775807 < 6 + s0.size) = False:=eq_false (Nat.not_lt.2 y0);clear y0
     have y1 : 6 + s0.size + 5 ≤ 9223372036854775807:=by have Z0_:=Z0.out;have Z1_:=Z1.out;have Z2_:=Z2.out;omega
     have y1b0:=eq_true y1;have y1b1 : decide (6 + s0.size + 5 ≤ 9223372036854775807) = true:=decide_eq_true y1;have y1b2 : (9223372036854775807 < 6 + s0.size + 5) = False:=eq_false (Nat.not_lt.2 y1);clear y1
     have y2 : 6 + s0.size + 5 + s1.size ≤ 9223372036854775807:=by have Z0_:=Z0.out;have Z1_:=Z1.out;have Z2_:=Z2.out;omega
     have y2b0:=eq_true y2;have y2b1 : decide (6 + s0.size + 5 + s1.size ≤ 9223372036854775807) = true:=decide_eq_true y2;have y2b2 : (9223372036854775807 < 6 + s0.size + 5 + s1.size) = False:=eq_false (Nat.not_lt.2 y2);clear y2
     have y3 : 6 + s0.size + 5 + s1.size + 7 ≤ 9223372036854775807:=by have Z0_:=Z0.out;have Z1_:=Z1.out;have Z2_:=Z2.out;omega
     have y3b0:=eq_true y3;have y3b1 : decide (6 + s0.size + 5 + s1.size + 7 ≤ 9223372036854775807) = true:=decide_eq_true y3;have y3b2 : (9223372036854775807 < 6 + s0.size + 5 + s1.size + 7) = False:=eq_false (Nat.not_lt.2 y3);clear y3
     have y4 : 6 + s0.size + 5 + s1.size + 7 + s2.size ≤ 9223372036854775807:=by have Z0_:=Z0.out;have Z1_:=Z1.out;have Z2_:=Z2.out;omega
     have y4b0:=eq_true y4;have y4b1 : decide (6 + s0.size + 5 + s1.size + 7 + s2.size ≤ 9223372036854775807) = true:=decide_eq_true y4;have y4b2 : (9223372036854775807 < 6 + s0.size + 5 + s1.size + 7 + s2.size) = False:=eq_false (Nat.not_lt.2 y4);clear y4
     have y5 : 6 + s0.size + 5 + s1.size + 7 + s2.size + 1 ≤ 9223372036854775807:=by have Z0_:=Z0.out;have Z1_:=Z1.out;have Z2_:=Z2.out;omega
     have y5b0:=eq_true y5;have y5b1 : decide (6 + s0.size + 5 + s1.size + 7 + s2.size + 1 ≤ 9223372036854775807) = true:=decide_eq_true y5;have y5b2 : (9223372036854775807 < 6 + s0.size + 5 + s1.size + 7 + s2.size + 1) = False:=eq_false (Nat.not_lt.2 y5);clear y5;have HLS:=Am (show (((((((⟨#[116,114,97,105,110,32]⟩ : ByteArray) ++ s0) ++ (⟨#[32,101,110,100,32]⟩ : ByteArray)) ++ s1) ++ (⟨#[32,100,101,108,97,121,32]⟩ : ByteArray)) ++ s2) ++ (⟨#[10]⟩ : ByteArray)).size ≤ 100 by have z0_:=Z0.out;have z1_:=Z1.out;have z2_:=Z2.out;simp only [ByteArray.size_append,size_lit];simp;omega);have HW:=Am (show wrT l0_0 l0_1 a0_2 a0_3 a0_4 = (l0_0.flatMap pcT ++ l0_1.flatMap znT) ++ ((((((((⟨#[116,114,97,105,110,32]⟩ : ByteArray) ++ s0) ++ (⟨#[32,101,110,100,32]⟩ : ByteArray)) ++ s1) ++ (⟨#[32,100,101,108,97,121,32]⟩ : ByteArray)) ++ s2) ++ (⟨#[10]⟩ : ByteArray)) : ByteArray).data.toList by simp only [wrT,tlT,tlB,N0.out,N1.out,N2.out]);go_wp2;clear hcP0 hfP0 hcP1 hfP1 hcP2 hfP2 hcP3 hfP3 hcP4 hfP4 H0 HK;have n0_:=Am (show WE w _ #[.slice A0_0 l0_0.length c0_0,.slice A0_1 l0_1.length c0_1,.int .i64 a0_2,.int .i64 a0_3,.int .i64 a0_4] gP gB (l0_0.flatMap pcT ++ l0_1.flatMap znT) from WE.drew (by (with_reducible repeat (first|refine WE.drewN ?_ _|refine WE.drew ?_|refine WE.alloc ?_ _));exact HE.out));clear HE;have HE:=n0_;clear n0_;refine start_ (n:=16) (S:=fun w' => w'.cell? ⟨gP,2,none⟩ = some (.int .i64 a0_2)∧w'.cell? ⟨gP,3,none⟩ = some (.int .i64 a0_3)∧w'.cell? ⟨gP,4,none⟩ = some (.int .i64 a0_4)) (ds:=[15]) #[false,false,false,false,false,false,false,false,false,false,false,false,false,false,false,false] (by kernel_rfl) rfl rfl ⟨(kC HE.out.pb 2).trans rfl,(kC HE.out.pb 3).trans rfl,(kC HE.out.pb 4).trans rfl⟩ (fun hHeld => ?_);refine with_tabW impl_WriteProfile.tab14 impl_WriteProfile.bits14 (fun HT_ HW_ => ?_);generalize wr.drew = w22 at HE hHeld ⊢;refine pure_ (i:=0) (N:=some 54) (v:=?_) (a':=?_) #[true,false,false,false,false,false,false,false,false,false,false,false,false,false,false,false] rfl rfl (any_of HT_.out (by kernel_rfl)) (fun _ _ _ h => h) (Or.inl ⟨by rfl,?_⟩) ?_ ?_;rotate_left
     ·intro w'
      go_simp
      with_reducible rfl
     rotate_left
     ·simp only [Act.put,pS]
      rfl
     refine pure_ (i:=5) (N:=some 59) (v:=?_) (a':=?_) #[true,false,false,false,false,true,false,false,false,false,false,false,false,false,false,false] rfl rfl (any_of HT_.out (by kernel_rfl)) (fun _ _ _ h => h) (Or.inl ⟨by rfl,?_⟩) ?_ ?_;rotate_left
     ·intro w'
      go_simp
      with_reducible rfl
     rotate_left
     ·simp only [Act.put,pS]
      rfl
     refine pure_ (i:=10) (N:=some 64) (v:=?_) (a':=?_) #[true,false,false,false,false,true,false,false,false,false,true,false,false,false,false,false] rfl rfl (any_of HT_.out (by kernel_rfl)) (fun _ _ _ h => h) (Or.inl ⟨by rfl,?_⟩) ?_ ?_;rotate_left
     ·intro w'
      go_simp
      with_reducible rfl
     rotate_left
     ·simp only [Act.put,pS]
      rfl
     refine take_ (i:=1) (N:=some 55) (v:=?_) (a':=?_) #[true,true,false,false,false,true,false,false,false,false,true,false,false,false,false,false] rfl rfl (take_ofW HT_.out HW_.out (by kernel_rfl)) (fun _ _ _ h => h) (Or.inl ⟨by rfl,?_⟩) hHeld ?_ ?_;rotate_left
     ·rintro w' ⟨s0,s1,s2⟩
      go_simp
      with_reducible rfl
     rotate_left
     ·simp only [Act.put,pS]
      rfl
     refine take_ (i:=6) (N:=some 60) (v:=?_) (a':=?_) #[true,true,false,false,false,true,true,false,false,false,true,false,false,false,false,false] rfl rfl (take_ofW HT_.out HW_.out (by kernel_rfl)) (fun _ _ _ h => h) (Or.inl ⟨by rfl,?_⟩) hHeld ?_ ?_;rotate_left
     ·rintro w' ⟨s0,s1,s2⟩
      go_simp
      with_reducible rfl
     rotate_left
     ·simp only [Act.put,pS]
      rfl
     refine take_ (i:=11) (N:=some 65) (v:=?_) (a':=?_) #[true,true,false,false,false,true,true,false,false,false,true,true,false,false,false,false] rfl rfl (take_ofW HT_.out HW_.out (by kernel_rfl)) (fun _ _ _ h => h) (Or.inl ⟨by rfl,?_⟩) hHeld ?_ ?_;rotate_left
     ·rintro w' ⟨s0,s1,s2⟩
      go_simp
      with_reducible rfl
     rotate_left
     ·simp only [Act.put,pS]
      rfl
     refine one_ (i:=2) (N:=some 56) #[true,true,true,false,false,true,true,false,false,false,true,true,false,false,false,false] rfl rfl (one_of HT_.out (by kernel_rfl)) (by decide) (fun K hK => ?_);refine goes_ Tryd.func17 (by kernel_rfl) rfl #[.int .i64 a0_2] (by rfl) rfl rfl lA ?_
     with_reducible refine (WE.itoa HE.out a0_2 HS.out.ht.1 HS.out.ht.2).mono ?_
     rintro e w30 ⟨rfl,hb⟩;refine ⟨_,rfl,?_⟩;rw [N0.out];have n0_:=Am (WE.below HE.out hb);clear HE;have HE:=n0_;clear n0_;(try clear hb);refine hK.out _ _ ⟨(kC HE.out.pb 2).trans rfl,(kC HE.out.pb 3).trans rfl,(kC HE.out.pb 4).trans rfl⟩ (fun hHeld => ?_);clear hK K;refine norm_ (a':=?_) ?_ ?_;rotate_left
     ·show Act.put _ (some 56) _ = _
      simp only [Act.put,pS]
      rfl
     refine pure_ (i:=3) (N:=some 57) (v:=?_) (a':=?_) #[true,true,true,true,false,true,true,false,false,false,true,true,false,false,false,false] rfl rfl (any_of HT_.out (by kernel_rfl)) (fun _ _ _ h => h) (Or.inl ⟨by rfl,?_⟩) ?_ ?_;rotate_left
     ·intro w'
      go_simp
      with_reducible rfl
     rotate_left
     ·simp only [Act.put,pS]
      rfl
     refine pure_ (i:=4) (N:=some 58) (v:=?_) (a':=?_) #[true,true,true,true,true,true,true,false,false,false,true,true,false,false,false,false] rfl rfl (any_of HT_.out (by kernel_rfl)) (fun _ _ _ h => h) (Or.inl ⟨by rfl,?_⟩) ?_ ?_;rotate_left
     ·intro w'
      go_simp
      with_reducible rfl
     rotate_left
     ·simp only [Act.put,pS]
      rfl
     refine one_ (i:=7) (N:=some 61) #[true,true,true,true,true,true,true,true,false,false,true,true,false,false,false,false] rfl rfl (one_of HT_.out (by kernel_rfl)) (by decide) (fun K hK => ?_);refine goes_ Tryd.func17 (by kernel_rfl) rfl #[.int .i64 a0_3] (by rfl) rfl rfl lA ?_
     with_reducible refine (WE.itoa HE.out a0_3 HS.out.he.1 HS.out.he.2).mono ?_
     rintro e w31 ⟨rfl,hb⟩;refine ⟨_,rfl,?_⟩;rw [N1.out];have n0_:=Am (WE.below HE.out hb);clear HE;have HE:=n0_;clear n0_;(try clear hb);refine hK.out _ _ ⟨(kC HE.out.pb 2).trans rfl,(kC HE.out.pb 3).trans rfl,(kC HE.out.pb 4).trans rfl⟩ (fun hHeld => ?_);clear hK K;refine norm_ (a':=?_) ?_ ?_;rotate_left
     ·show Act.put _ (some 61) _ = _
      simp only [Act.put,pS]
      rfl
     refine pure_ (i:=8) (N:=some 62) (v:=?_) (a':=?_) #[true,true,true,true,true,true,true,true,true,false,true,true,false,false,false,false] rfl rfl (any_of HT_.out (by kernel_rfl)) (fun _ _ _ h => h) (Or.inl ⟨by rfl,?_⟩) ?_ ?_;rotate_left
     ·intro w'
      go_simp
      with_reducible rfl
     rotate_left
     ·simp only [Act.put,pS]
      rfl
     refine pure_ (i:=9) (N:=some 63) (v:=?_) (a':=?_) #[true,true,true,true,true,true,true,true,true,true,true,true,false,false,false,false] rfl rfl (any_of HT_.out (by kernel_rfl)) (fun _ _ _ h => h) (Or.inl ⟨by rfl,?_⟩) ?_ ?_;rotate_left
     ·intro w'
      go_simp
      with_reducible rfl
     rotate_left
     ·simp only [Act.put,pS]
      rfl
     refine one_ (i:=12) (N:=some 66) #[true,true,true,true,true,true,true,true,true,true,true,true,true,false,false,false] rfl rfl (one_of HT_.out (by kernel_rfl)) (by decide) (fun K hK => ?_);refine goes_ Tryd.func17 (by kernel_rfl) rfl #[.int .i64 a0_4] (by rfl) rfl rfl lA ?_
     with_reducible refine (WE.itoa HE.out a0_4 HS.out.hd.1 HS.out.hd.2).mono ?_
     rintro e w32 ⟨rfl,hb⟩;refine ⟨_,rfl,?_⟩;rw [N2.out];have n0_:=Am (WE.below HE.out hb);clear HE;have HE:=n0_;clear n0_;(try clear hb);refine hK.out _ _ ⟨(kC HE.out.pb 2).trans rfl,(kC HE.out.pb 3).trans rfl,(kC HE.out.pb 4).trans rfl⟩ (fun hHeld => ?_);clear hK K;refine norm_ (a':=?_) ?_ ?_;rotate_left
     ·show Act.put _ (some 66) _ = _
      simp only [Act.put,pS]
      rfl
     refine pure_ (i:=13) (N:=some 67) (v:=?_) (a':=?_) #[true,true,true,true,true,true,true,true,true,true,true,true,true,true,false,false] rfl rfl (any_of HT_.out (by kernel_rfl)) (fun _ _ _ h => h) (Or.inl ⟨by rfl,?_⟩) ?_ ?_;rotate_left
     ·intro w'
      go_simp
      with_reducible rfl
     rotate_left
     ·simp only [Act.put,pS]
      rfl
     refine pure_ (i:=14) (N:=some 68) (v:=?_) (a':=?_) #[true,true,true,true,true,true,true,true,true,true,true,true,true,true,true,false] rfl rfl (any_of HT_.out (by kernel_rfl)) (fun _ _ _ h => h) (Or.inl ⟨by rfl,?_⟩) ?_ ?_;rotate_left
     ·intro w'
      go_simp
      with_reducible rfl
     rotate_left
     ·simp only [Act.put,pS]
      rfl
     refine last_ (i:=15) (N:=some 69) #[true,true,true,true,true,true,true,true,true,true,true,true,true,true,true,true] rfl rfl (one_of HT_.out (by kernel_rfl)) (by decide) (fun K hK => ?_);refine goes_ Tryd.func16 (by kernel_rfl) rfl #[.pointer (some ⟨gB,0,none⟩),.string (((((((⟨#[116,114,97,105,110,32]⟩ : ByteArray) ++ s0) ++ (⟨#[32,101,110,100,32]⟩ : ByteArray)) ++ s1) ++ (⟨#[32,100,101,108,97,121,32]⟩ : ByteArray)) ++ s2) ++ (⟨#[10]⟩ : ByteArray))] (by rfl) rfl rfl lA ?_
     with_reducible refine (WE.write HE.out (((((((⟨#[116,114,97,105,110,32]⟩ : ByteArray) ++ s0) ++ (⟨#[32,101,110,100,32]⟩ : ByteArray)) ++ s1) ++ (⟨#[32,100,101,108,97,121,32]⟩ : ByteArray)) ++ s2) ++ (⟨#[10]⟩ : ByteArray)) (by have h1:=HLS.out;have h2:=HS.out.pl l0_0.length;have h3:=HS.out.zl l0_1.length;rw [List.take_length] at h2 h3;simp only [List.length_append];omega)).mono ?_
     rintro e w40 ⟨rfl,hE⟩;refine ⟨_,rfl,?_⟩;rw [← HW.out] at hE;have HE1:=Am hE;clear HE hE;have HE:=HE1;clear HE1;refine hK.out _ _ ?_;clear hK K;refine norm_ (a':=?_) ?_ ?_;rotate_left
     ·show Act.put _ (some 69) _ = _
      simp only [Act.put,pS]
      rfl
     refine done_ (done_of HT_.out (by kernel_rfl)) ?_;clear HW
     obtain ⟨tx,htx⟩ : ∃ t,wrT l0_0 l0_1 a0_2 a0_3 a0_4 = t:=⟨_,rfl⟩
     rw [htx] at HE;have HTX:=Am htx;clear htx
     by_cases c9 : (tx.length : Int) > 3000
     case pos =>
      have c9b0 : decide ((tx.length : Int) > 3000) = true:=decide_eq_true c9;have C9:=Am c9;clear c9
      go_wp2_with (first|((with_reducible refine gate_callee (f:=18) rfl ?_);(try (refine gate_guard (by rfl) ?_;dsimp only));refine goesL_ (some 70) rfl rfl Tryd.func18 (by kernel_rfl) rfl #[.pointer (some ⟨gB,0,none⟩)] rfl lA ?_;(with_reducible refine (WE.len (by (with_reducible repeat (first|refine WE.drewN ?_ _|refine WE.drew ?_|refine WE.alloc ?_ _));exact HE.out)).mono ?_);rintro e w41 ⟨rfl,hw41⟩;refine ⟨_,rfl,?_⟩;subst hw41))
      go_ret;exact ⟨ret_s (by rw [← HV.out,wr_long HPZ.out (by rw [HTX.out];have:=C9.out;omega)];try rfl),((by (with_reducible repeat (first|refine WE.drewN ?_ _|refine WE.drew ?_|refine WE.alloc ?_ _));exact HE.out) : WE w _ _ gP gB tx).bw⟩
     case neg =>
      have c9b0 : decide ((tx.length : Int) > 3000) = false:=decide_eq_false c9;have C9:=Am c9;clear c9
      go_wp2_with (first|((with_reducible refine gate_callee (f:=18) rfl ?_);(try (refine gate_guard (by rfl) ?_;dsimp only));refine goesL_ (some 70) rfl rfl Tryd.func18 (by kernel_rfl) rfl #[.pointer (some ⟨gB,0,none⟩)] rfl lA ?_;(with_reducible refine (WE.len (by (with_reducible repeat (first|refine WE.drewN ?_ _|refine WE.drew ?_|refine WE.alloc ?_ _));exact HE.out)).mono ?_);rintro e w41 ⟨rfl,hw41⟩;refine ⟨_,rfl,?_⟩;subst hw41)|((with_reducible refine gate_callee (f:=19) rfl ?_);(try (refine gate_guard (by rfl) ?_;dsimp only));refine goesL_ (some 72) rfl rfl Tryd.func19 (by kernel_rfl) rfl #[.pointer (some ⟨gB,0,none⟩)] rfl lA ?_;(with_reducible refine (WE.str (by (with_reducible repeat (first|refine WE.drewN ?_ _|refine WE.drew ?_|refine WE.alloc ?_ _));exact HE.out)).mono ?_);rintro e w42 ⟨rfl,hb⟩;refine ⟨_,rfl,?_⟩;have HB:=Am hb;clear hb))
      go_ret;exact ⟨ret_s (by rw [← HV.out,wr_ok HPZ.out (by rw [HTX.out];have:=C9.out;omega),HTX.out]),(bL HB)⟩

end Go.Proofs.YtanjbdgmnecacaaDoor.PT
