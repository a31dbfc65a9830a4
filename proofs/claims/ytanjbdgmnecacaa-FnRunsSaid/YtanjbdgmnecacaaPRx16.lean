-- Written by a program of this session (wip/print/myprint.py) over the kit's print, with contracts of its own; not a text of print.sh's.
import Derived.Test.YtanjbdgmnecacaaPRx0
import Derived.Test.YtanjbdgmnecacaaPRx1
import Derived.Test.YtanjbdgmnecacaaPRx10
import Derived.Test.YtanjbdgmnecacaaPRx14
import Derived.Test.YtanjbdgmnecacaaPRx15
namespace Go.Proofs.Ytanjbdgmnecacaa.PR
open Go.RowKit Go.Proofs.YtanjbdgmnecacaaW.PrintWords Go.Proofs.YtanjbdgmnecacaaW.PrintLast Go.Proofs.YtanjbdgmnecacaaW.PrintMore
attribute [local go_sem] max2_int min2_int max_two min_two   -- for this text's walks alone
set_option linter.unusedVariables false
set_option linter.unusedSimpArgs false

/-! ### rows of 61 cells -/
def arr61 {α : Type} (enc : α → Value) (h1 : ∀ x,(enc x).oneCell' = true) : Kd (List α) where
 sz:=61
 E:=[]
 K:=fun _ xs cs => xs.length = 61∧cs = xs.map enc
 M:=fun _ _ _ xs cs => xs.length = 61∧cs = xs.map enc
 K_len:=fun h => by rw [h.2,List.length_map];exact h.1
 K_one:=fun h u hu => by
  rw [h.2] at hu;obtain ⟨x,_,rfl⟩:=List.mem_map.1 hu;exact h1 _
 K_below:=fun _ h => h
 K_of_M:=fun h => h
 M_mono:=fun _ h => h
 M_bound:=fun h => h
 M_move:=fun _ h => h
 M_lower:=fun _ h => h
def arrI : Kd (List Int):=arr61 (Value.int .i64) (fun _ => rfl)
def arrB : Kd (List Bool):=arr61 Value.bool (fun _ => rfl)
theorem finfoI : (Try.prog.info? 69).map (fun i => (i.zero,i.size,i.bytes)) = some (some (.agg (Array.replicate 61 (.int .i64 0))),61,488):=by kernel_rfl
theorem finfoB : (Try.prog.info? 68).map (fun i => (i.zero,i.size,i.bytes)) = some (some (.agg (Array.replicate 61 (.bool false))),61,61):=by kernel_rfl
theorem zeroI : (Value.agg (Array.replicate 61 (.int .i64 0))).cells.size = 61:=by kernel_rfl
theorem zeroB : (Value.agg (Array.replicate 61 (.bool false))).cells.size = 61:=by kernel_rfl
theorem zeroI' : (Value.agg (Array.replicate 61 (.int .i64 0))).cells.toList = (List.replicate 61 (0 : Int)).map (Value.int .i64):=by kernel_rfl
theorem zeroB' : (Value.agg (Array.replicate 61 (.bool false))).cells.toList = (List.replicate 61 false).map Value.bool:=by kernel_rfl
/-- An entry, and a table with an entry changed. -/
def rd2 (T : List (List Int)) (i j : Int) : Int:=(T.getD i.toNat []).getD j.toNat 0
def rdB (T : List (List Bool)) (i j : Int) : Bool:=(T.getD i.toNat []).getD j.toNat false
def up2 {α : Type} (T : List (List α)) (i j : Int) (v : α) : List (List α):=T.set i.toNat ((T.getD i.toNat []).set j.toNat v)
theorem up2_len {α : Type} (T : List (List α)) (i j : Int) (v : α) : (up2 T i j v).length = T.length:=by simp [up2]
section
variable {α : Type} {enc : α → Value} {h1 : ∀ x,(enc x).oneCell' = true} {e base g n cap : Nat} {ok : Nat → Prop} {W : World} {T : List (List α)}
theorem arr_cell (h : (arr61 enc h1).R e W base ok (.slice (some ⟨g,0,none⟩) n cap) T) (z : α) (i j : Int) (hi : 0 ≤ i) (hn : i < n) (hj : 0 ≤ j) (h61 : j < 61) :
  W.cell? ⟨g,i.toNat * 61 + j.toNat,none⟩ = some (enc ((T.getD i.toNat []).getD j.toNat z))∧W.frozen? ⟨g,i.toNat * 61 + j.toNat,none⟩ = false:=by
 obtain ⟨c,hc,hM,hcc,hfr⟩:=Kd.R_elem h [] i hi hn
 obtain ⟨hl,rfl⟩:=(show (T.getD i.toNat []).length = 61∧c = (T.getD i.toNat []).map enc from hM)
 refine ⟨hcc j.toNat _ ?_,hfr _⟩;generalize T.getD i.toNat [] = row at hl ⊢;rw [List.getElem?_map,List.getD_eq_getElem?_getD,List.getElem?_eq_getElem (show j.toNat < row.length by omega)]
 rfl
theorem arr_put (h : (arr61 enc h1).R e W base ok (.slice (some ⟨g,0,none⟩) n cap) T) (i j : Int) (v : α) (hi : 0 ≤ i) (hn : i < n) (hj : 0 ≤ j) (h61 : j < 61) :
  (arr61 enc h1).R e (W.setCell ⟨g,i.toNat * 61 + j.toNat,none⟩ (enc v)) base ok (.slice (some ⟨g,0,none⟩) n cap) (up2 T i j v):=by
 obtain ⟨c,hc,hM,hcc,hfr⟩:=Kd.R_elem h [] i hi hn
 obtain ⟨hl,rfl⟩:=(show (T.getD i.toNat []).length = 61∧c = (T.getD i.toNat []).map enc from hM)
 have hj' : j.toNat < (T.getD i.toNat []).length:=by omega
 have:=Kd.R_seg (okp:=fun _ => False) h i hi hn (seg:=[enc v]) (j:=j.toNat) hc hcc (by show j.toNat + 1 ≤ 61;omega) (x':=(T.getD i.toNat []).set j.toNat v)
  (show ((T.getD i.toNat []).set j.toNat v).length = 61∧_ = ((T.getD i.toNat []).set j.toNat v).map enc from ⟨by rw [List.length_set];exact hl,by
   rw [List.map_set,List.set_eq_take_append_cons_drop,if_pos (by rw [List.length_map];exact hj')]
   simp⟩) (fun _ hk => hk.elim)
 exact this.1
end
/-! ### the program's fastest run: its surroundings -/
structure IZ (s : GSt) (w W : World) (gp gx gr gL cL gB cB n : Nat) (T : List (List Int)) (B : List (List Bool)) : Prop where
 pb : W.heap[gp]? = some (.cells #[.slice s.A0 s.l0.length s.c0,.slice s.A1 s.l1.length s.c1,.int .i64 s.tr,.int .i64 s.en,.int .i64 s.de] 26 (0,0))
 xb : W.heap[gx]? = some (.cells #[.int .i64 s.x] 3 (0,0))
 rb : W.heap[gr]? = some (.cells #[.bool false,.int .i64 0,.slice none 0 0] 41 (0,0))
 tn : T.length = n
 bn : B.length = n
 tl : arrI.R 69 W w.heap.size (fun k => k = gL) (.slice (some ⟨gL,0,none⟩) n cL) T
 bl : arrB.R 68 W w.heap.size (fun k => k = gB) (.slice (some ⟨gB,0,none⟩) n cB) B
 np : w.heap.size ≤ gp
 nx : w.heap.size ≤ gx
 nr : w.heap.size ≤ gr
 nL : w.heap.size ≤ gL
 nB : w.heap.size ≤ gB
 ne1 : gL ≠ gp∧gL ≠ gx∧gL ≠ gr∧gL ≠ gB
 ne2 : gB ≠ gp∧gB ≠ gx∧gB ≠ gr
 bw : Below w.heap.size w W
 rd : GRd s w
section
variable {s : GSt} {w W W1 : World} {gp gx gr gL cL gB cB n go : Nat} {T : List (List Int)} {B : List (List Bool)} {kk : Int} {vc vo : Value} {ou : List Int}
theorem IZ.below (h : IZ s w W gp gx gr gL cL gB cB n T B) (hb : Below W.heap.size W W1) : IZ s w W1 gp gx gr gL cL gB cB n T B :=
 ⟨blk_below h.pb hb,blk_below h.xb hb,blk_below h.rb hb,h.tn,h.bn,Kd.R_below h.tl hb,Kd.R_below h.bl hb,h.np,h.nx,h.nr,h.nL,h.nB,h.ne1,h.ne2,below_step h.bw hb,h.rd⟩
theorem IZ.drewN (h : IZ s w W gp gx gr gL cL gB cB n T B) (m : Nat) : IZ s w (W.drewN m) gp gx gr gL cL gB cB n T B:=h.below (bN (Below.refl _ _) m)
theorem IZ.drew (h : IZ s w W gp gx gr gL cL gB cB n T B) : IZ s w W.drew gp gx gr gL cL gB cB n T B:=h.below (bD (Below.refl _ _))
theorem IZ.alloc (h : IZ s w W gp gx gr gL cL gB cB n T B) (o : Obj) : IZ s w (W.alloc o) gp gx gr gL cL gB cB n T B:=h.below (bA (Below.refl _ _) o)
theorem IZ.grd (h : IZ s w W gp gx gr gL cL gB cB n T B) : GRd s W:=h.rd.below h.bw
theorem IZ.setT (h : IZ s w W gp gx gr gL cL gB cB n T B) (i j v : Int) (hi : 0 ≤ i) (hn : i < n) (hj : 0 ≤ j) (h61 : j < 61) : IZ s w (W.setCell ⟨gL,i.toNat * 61 + j.toNat,none⟩ (.int .i64 v)) gp gx gr gL cL gB cB n (up2 T i j v) B :=
 ⟨blk_far h.pb (fun e => h.ne1.1 e.symm) _,blk_far h.xb (fun e => h.ne1.2.1 e.symm) _,blk_far h.rb (fun e => h.ne1.2.2.1 e.symm) _,by rw [up2_len];exact h.tn,h.bn,arr_put h.tl i j v hi hn hj h61,Kd.R_far h.bl (fun k hk e => h.ne1.2.2.2 (by rw [← hk];exact e.symm)) _,h.np,h.nx,h.nr,h.nL,h.nB,h.ne1,h.ne2,h.bw.setCell h.nL _,h.rd⟩
theorem IZ.setB (h : IZ s w W gp gx gr gL cL gB cB n T B) (i j : Int) (v : Bool) (hi : 0 ≤ i) (hn : i < n) (hj : 0 ≤ j) (h61 : j < 61) : IZ s w (W.setCell ⟨gB,i.toNat * 61 + j.toNat,none⟩ (.bool v)) gp gx gr gL cL gB cB n T (up2 B i j v) :=
 ⟨blk_far h.pb (fun e => h.ne2.1 e.symm) _,blk_far h.xb (fun e => h.ne2.2.1 e.symm) _,blk_far h.rb (fun e => h.ne2.2.2 e.symm) _,h.tn,by rw [up2_len];exact h.bn,Kd.R_far h.tl (fun k hk e => h.ne1.2.2.2 (by rw [← hk];exact e)) _,arr_put h.bl i j v hi hn hj h61,h.np,h.nx,h.nr,h.nL,h.nB,h.ne1,h.ne2,h.bw.setCell h.nB _,h.rd⟩
theorem IZ.atT (h : IZ s w W gp gx gr gL cL gB cB n T B) (i j : Int) (hi : 0 ≤ i) (hn : i < n) (hj : 0 ≤ j) (h61 : j < 61) : W.cell? ⟨gL,i.toNat * 61 + j.toNat,none⟩ = some (.int .i64 (rd2 T i j))∧W.frozen? ⟨gL,i.toNat * 61 + j.toNat,none⟩ = false:=arr_cell h.tl 0 i j hi hn hj h61
theorem IZ.atB (h : IZ s w W gp gx gr gL cL gB cB n T B) (i j : Int) (hi : 0 ≤ i) (hn : i < n) (hj : 0 ≤ j) (h61 : j < 61) : W.cell? ⟨gB,i.toNat * 61 + j.toNat,none⟩ = some (.bool (rdB B i j))∧W.frozen? ⟨gB,i.toNat * 61 + j.toNat,none⟩ = false:=arr_cell h.bl false i j hi hn hj h61
/-- And the answer that is filled, with its list. -/
structure IE (s : GSt) (w W : World) (gp gx gr gL cL gB cB n : Nat) (T : List (List Int)) (B : List (List Bool)) (go : Nat) (kk : Int) (vc vo : Value) (ou : List Int) : Prop where
 sz : IZ s w W gp gx gr gL cL gB cB n T B
 ob : W.heap[go]? = some (.cells #[.bool true,.int .i64 kk,vc] 41 (0,0))
 ol : Kd.R (Kd.int .i64) 3 W w.heap.size (fun k => k ≠ gp∧k ≠ gx∧k ≠ gr∧k ≠ gL∧k ≠ gB∧k ≠ go) vo ou
 no : w.heap.size ≤ go
 nn : go ≠ gp∧go ≠ gx∧go ≠ gr∧go ≠ gL∧go ≠ gB
theorem IE.below (h : IE s w W gp gx gr gL cL gB cB n T B go kk vc vo ou) (hb : Below W.heap.size W W1) : IE s w W1 gp gx gr gL cL gB cB n T B go kk vc vo ou :=
 ⟨h.sz.below hb,blk_below h.ob hb,Kd.R_below h.ol hb,h.no,h.nn⟩
theorem IE.drewN (h : IE s w W gp gx gr gL cL gB cB n T B go kk vc vo ou) (m : Nat) : IE s w (W.drewN m) gp gx gr gL cL gB cB n T B go kk vc vo ou:=h.below (bN (Below.refl _ _) m)
theorem IE.drew (h : IE s w W gp gx gr gL cL gB cB n T B go kk vc vo ou) : IE s w W.drew gp gx gr gL cL gB cB n T B go kk vc vo ou:=h.below (bD (Below.refl _ _))
theorem IE.alloc (h : IE s w W gp gx gr gL cL gB cB n T B go kk vc vo ou) (o : Obj) : IE s w (W.alloc o) gp gx gr gL cL gB cB n T B go kk vc vo ou:=h.below (bA (Below.refl _ _) o)
theorem IE.hw (h : IE s w W gp gx gr gL cL gB cB n T B go kk vc vo ou) : w.heap.size ≤ W.heap.size:=h.sz.bw.size
theorem IZ.fresh (h : IZ s w W gp gx gr gL cL gB cB n T B) : ∀ k,W.heap.size ≤ k → (k ≠ gp∧k ≠ gx∧k ≠ gr∧k ≠ gL∧k ≠ gB):=fun k hk => by
 have h1:=blk_lt h.pb;have h2:=blk_lt h.xb;have h3:=blk_lt h.rb;have h4:=Kd.R_lt h.tl gL (by simp [Value.ownBlock]);have h5:=Kd.R_lt h.bl gB (by simp [Value.ownBlock])
 omega
theorem IE.fresh (h : IE s w W gp gx gr gL cL gB cB n T B go kk vc vo ou) : ∀ k,W.heap.size ≤ k → (k ≠ gp∧k ≠ gx∧k ≠ gr∧k ≠ gL∧k ≠ gB∧k ≠ go):=fun k hk => by
 have h1:=h.sz.fresh k hk;have h2:=blk_lt h.ob
 omega
theorem IE.app {v1 : Value} {l1 : List Int} (h : IE s w W gp gx gr gL cL gB cB n T B go kk vc vo ou) (hr : Kd.R (Kd.int .i64) 3 W1 w.heap.size (fun k => k ≠ gp∧k ≠ gx∧k ≠ gr∧k ≠ gL∧k ≠ gB∧k ≠ go) v1 l1) (hb : Below w.heap.size W W1) (hg : W.grownBy W1 vo.ownBlock) : IE s w W1 gp gx gr gL cL gB cB n T B go kk vc v1 l1:=by
 have hn : ∀ k,vo.ownBlock = some k → (k ≠ gp∧k ≠ gx∧k ≠ gr∧k ≠ gL∧k ≠ gB∧k ≠ go):=h.ol.1
 exact ⟨⟨blk_grown h.sz.pb hg (fun e => (hn _ e.symm).1 rfl),blk_grown h.sz.xb hg (fun e => (hn _ e.symm).2.1 rfl),blk_grown h.sz.rb hg (fun e => (hn _ e.symm).2.2.1 rfl),h.sz.tn,h.sz.bn,Kd.R_step h.sz.tl (fun k hk hlt => hg.block k hlt (fun e => (hn _ e.symm).2.2.2.1 hk)),Kd.R_step h.sz.bl (fun k hk hlt => hg.block k hlt (fun e => (hn _ e.symm).2.2.2.2.1 hk)),h.sz.np,h.sz.nx,h.sz.nr,h.sz.nL,h.sz.nB,h.sz.ne1,h.sz.ne2,h.sz.bw.trans hb,h.sz.rd⟩,
  blk_grown h.ob hg (fun e => (hn _ e.symm).2.2.2.2.2 rfl),hr,h.no,h.nn⟩
theorem IZ.set (h : IZ s w W gp gx gr gL cL gB cB n T B) {go : Nat} (no : w.heap.size ≤ go) (nn : go ≠ gp∧go ≠ gx∧go ≠ gr∧go ≠ gL∧go ≠ gB) (j : Nat) (u : Value) : IZ s w (W.setCell ⟨go,j,none⟩ u) gp gx gr gL cL gB cB n T B :=
 ⟨blk_far h.pb (fun e => nn.1 e.symm) _,blk_far h.xb (fun e => nn.2.1 e.symm) _,blk_far h.rb (fun e => nn.2.2.1 e.symm) _,h.tn,h.bn,Kd.R_far h.tl (fun k hk e => nn.2.2.2.1 (by rw [← hk];exact e.symm)) _,Kd.R_far h.bl (fun k hk e => nn.2.2.2.2 (by rw [← hk];exact e.symm)) _,h.np,h.nx,h.nr,h.nL,h.nB,h.ne1,h.ne2,h.bw.setCell no _,h.rd⟩
theorem IE.put (h : IE s w W gp gx gr gL cL gB cB n T B go kk vc vo ou) : IE s w (W.setCell ⟨go,2,none⟩ vo) gp gx gr gL cL gB cB n T B go kk vo vo ou :=
 ⟨h.sz.set h.no h.nn 2 vo,(blk_set h.ob 2 _).trans rfl,Kd.R_far h.ol (fun k hk => hk.2.2.2.2.2) _,h.no,h.nn⟩
theorem IE.start (h : IZ s w W gp gx gr gL cL gB cB n T B) (hob : W.heap[go]? = some (.cells #[.bool true,.int .i64 kk,.slice none 0 0] 41 (0,0))) (no : w.heap.size ≤ go) (nn : go ≠ gp∧go ≠ gx∧go ≠ gr∧go ≠ gL∧go ≠ gB) : IE s w W gp gx gr gL cL gB cB n T B go kk (.slice none 0 0) (.slice none 0 0) [] :=
 ⟨h,hob,Kd.R_nil _ _ _ _ _,no,nn⟩
end

/-- The least next speed. -/
def loI (b v : Int) : Int:=if 0 < wrap64 (v - b) then wrap64 (v - b) else 0
set_option maxHeartbeats 80000000 in
set_option maxRecDepth 100000 in
theorem impl_low.calls (k : Nat) (s : GSt) (gp gx : Nat) (a v b lo : Int) (w : World) (hp : w.heap[gp]? = some (.cells #[.slice s.A0 s.l0.length s.c0,.slice s.A1 s.l1.length s.c1,.int .i64 s.tr,.int .i64 s.en,.int .i64 s.de] 26 (0,0))) (hx : w.heap[gx]? = some (.cells #[.int .i64 s.x] 3 (0,0))) (hr : GRd s w) (h1 : impl_brakeAt.f k s.l0 s.l1 s.tr s.en s.de (wrap64 (s.x + a)) = some b) (h2 : loI b v = lo) :
  Calls Try.prog 42 #[.int .i64 a,.int .i64 v,.pointer (some ⟨gp,0,none⟩),.pointer (some ⟨gx,0,none⟩)] w fun e w' => e = .returned (.int .i64 lo)∧Below w.heap.size w w':=by
 have hu26:=Try.underlying26;have hcp0 : w.cell? ⟨gp,0,none⟩ = some (.slice s.A0 s.l0.length s.c0):=(kC hp 0).trans rfl;have hcp1 : w.cell? ⟨gp,1,none⟩ = some (.slice s.A1 s.l1.length s.c1):=(kC hp 1).trans rfl;have hcp2 : w.cell? ⟨gp,2,none⟩ = some (.int .i64 s.tr):=(kC hp 2).trans rfl;have hcp3 : w.cell? ⟨gp,3,none⟩ = some (.int .i64 s.en):=(kC hp 3).trans rfl;have hcp4 : w.cell? ⟨gp,4,none⟩ = some (.int .i64 s.de):=(kC hp 4).trans rfl;have hfp0:=kF hp 0;have hfp1:=kF hp 1;have hfp2:=kF hp 2;have hfp3:=kF hp 3;have hfp4:=kF hp 4;have hcx0 : w.cell? ⟨gx,0,none⟩ = some (.int .i64 s.x):=(kC hx 0).trans rfl;have hfx0:=kF hx 0;have HR:=Am hr;clear hr;have A1:=Am h1;clear h1;have A2:=Am h2;clear h2;clear hp hx;have HB:=Am (Below.refl w.heap.size w);have A2_ : (if 0 < wrap64 (v - b) then wrap64 (v - b) else 0) = lo:=A2.out
 go_enter Try.func42,Try.ntmps42
 go_wp2_with (first|((with_reducible refine gate_callee (f:=36) rfl ?_);(try (refine gate_guard (by rfl) ?_;dsimp only));refine goesL_ (some 12) rfl rfl Try.func36 (by kernel_rfl) rfl #[.agg #[.slice s.A0 s.l0.length s.c0,.slice s.A1 s.l1.length s.c1,.int .i64 s.tr,.int .i64 s.en,.int .i64 s.de],.int .i64 (wrap64 (s.x + a))] rfl lA ?_;(with_reducible refine (impl_brakeAt.calls k _ _ s.l0 _ _ s.l1 s.tr s.en s.de (wrap64 (s.x + a)) b _ (GRd.below HR.out (bL HB)).k0 HR.out.n0 (GRd.below HR.out (bL HB)).k1 HR.out.n1 A1.out).mono ?_);rintro e w8 ⟨rfl,hb⟩;refine ⟨_,rfl,?_⟩;have n0_:=Am (below_step (bL HB) hb);clear HB;have HB:=n0_;clear n0_ hb))
 go_ret;exact ⟨by first|rfl|(simp;done)|(simp [*];done),bL HB⟩
/-! ### impl_Fastest: function 16 -/
def mnI (b x : Int) : Int:=if x < b then x else b
def hiI (ac z : Int) : Int:=if wrap64 (z + ac) < 60 then wrap64 (z + ac) else 60
/-- What can be run through from a place. -/
def il1 (l0 : List S39) (l1 : List S45) (tr en de x nn a : Int) : Nat → List (List Bool) → Int → Option (List (List Bool))
 | 0,_,_ => none
 | k + 1,B,z => if z ≤ 60∧wrap64 (a + z) ≤ nn then ((impl_touched.f k l0 l1 tr en de (wrap64 (x + a)) (wrap64 (wrap64 (x + a) + z))).bind fun t => (if 0 ≤ a∧a < (B.length : Int)∧0 ≤ z∧z < 61 then il1 l0 l1 tr en de x nn a k (up2 B a z (decide (z ≤ t))) (wrap64 (z + 1)) else none)) else some B
/-- The least of what follows. -/
def il3 (ac : Int) (T : List (List Int)) (B : List (List Bool)) (a z : Int) : Nat → Int → Int → Option Int
 | 0,_,_ => none
 | k + 1,q,best => if q ≤ hiI ac z then (if q = 0 then (if z > 0 then (if 0 ≤ a∧a < (T.length : Int) then il3 ac T B a z k (wrap64 (q + 1)) (mnI best (wrap64 (rd2 T a 0 + 1))) else none) else il3 ac T B a z k (wrap64 (q + 1)) best) else (if q > 0 then (if 0 ≤ a∧a < (B.length : Int)∧q < 61 then (if rdB B a q = true then (if 0 ≤ wrap64 (a + q)∧wrap64 (a + q) < (T.length : Int) then il3 ac T B a z k (wrap64 (q + 1)) (mnI best (wrap64 (rd2 T (wrap64 (a + q)) q + 1))) else none) else il3 ac T B a z k (wrap64 (q + 1)) best) else none) else il3 ac T B a z k (wrap64 (q + 1)) best)) else some best
def bsI (nn a sh z : Int) : Int:=if z = 0 then (if wrap64 (nn - a) ≤ sh then 0 else 1073741824) else 1073741824
def IffB (b : Bool) (p : Prop) : Prop:=b = true ↔ p
theorem bsI_true {nn a sh z : Int} (h : IffB true (z = 0∧wrap64 (nn - a) ≤ sh)) : bsI nn a sh z = 0:=by
 have h1:=h.1 rfl;unfold bsI;rw [if_pos h1.1,if_pos h1.2]
theorem bsI_false {nn a sh z : Int} (h : IffB false (z = 0∧wrap64 (nn - a) ≤ sh)) : bsI nn a sh z = 1073741824:=by
 unfold bsI
 by_cases q1 : z = 0
 ·rw [if_pos q1,if_neg (fun q2 => by have:=h.2 ⟨q1,q2⟩;cases this)]
 ·rw [if_neg q1]
/-- All speeds at a place. -/
def il2 (l0 : List S39) (l1 : List S45) (tr en de ac x sh nn a : Int) (B : List (List Bool)) : Nat → List (List Int) → Int → Option (List (List Int))
 | 0,_,_ => none
 | k + 1,T,z => if z ≤ 60 then ((impl_brakeAt.f k l0 l1 tr en de (wrap64 (x + a))).bind fun b => ((il3 ac T B a z k (loI b z) (bsI nn a sh z)).bind fun best => (if 0 ≤ a∧a < (T.length : Int)∧0 ≤ z∧z < 61 then il2 l0 l1 tr en de ac x sh nn a B k (up2 T a z best) (wrap64 (z + 1)) else none))) else some T
/-- From the end back. -/
def il0 (l0 : List S39) (l1 : List S45) (tr en de ac x sh nn : Int) : Nat → List (List Int) → List (List Bool) → Int → Option (List (List Int) × List (List Bool))
 | 0,_,_,_ => none
 | k + 1,T,B,a => if a ≥ 0 then ((il1 l0 l1 tr en de x nn a k B 1).bind fun B1 => ((il2 l0 l1 tr en de ac x sh nn a B1 k T 0).bind fun T1 => il0 l0 l1 tr en de ac x sh nn k T1 B1 (wrap64 (a - 1)))) else some (T,B)
/-- The next speed: the greatest that leads on. -/
def il5 (l0 : List S39) (l1 : List S45) (tr en de x : Int) (T : List (List Int)) (B : List (List Bool)) (a v tk : Int) : Nat → Int → Option (Int × Int)
 | 0,_ => none
 | k + 1,q => (impl_brakeAt.f k l0 l1 tr en de (wrap64 (x + a))).bind fun b => (if q ≥ loI b v then (if q = 0 then (if 0 ≤ wrap64 (a + q)∧wrap64 (a + q) < (T.length : Int) then (if rd2 T (wrap64 (a + q)) q = wrap64 (tk - 1) then some (wrap64 (a + q),q) else il5 l0 l1 tr en de x T B a v tk k (wrap64 (q - 1))) else none) else (if 0 ≤ a∧a < (B.length : Int)∧0 ≤ q∧q < 61 then (if rdB B a q = true then (if 0 ≤ wrap64 (a + q)∧wrap64 (a + q) < (T.length : Int) then (if rd2 T (wrap64 (a + q)) q = wrap64 (tk - 1) then some (wrap64 (a + q),q) else il5 l0 l1 tr en de x T B a v tk k (wrap64 (q - 1))) else none) else il5 l0 l1 tr en de x T B a v tk k (wrap64 (q - 1))) else none)) else some (a,v))
/-- From speed to speed. -/
def il4 (l0 : List S39) (l1 : List S45) (tr en de ac x : Int) (T : List (List Int)) (B : List (List Bool)) : Nat → Int → Int → Int → List Int → Option (List Int)
 | 0,_,_,_,_ => none
 | k + 1,a,v,tk,ou => if tk > 0 then ((il5 l0 l1 tr en de x T B a v tk k (hiI ac v)).bind fun p => (if ou.length ≤ 1000000 then il4 l0 l1 tr en de ac x T B k p.1 p.2 (wrap64 (tk - 1)) (ou ++ [p.2]) else none)) else some ou
def impl_Fastest.f (k : Nat) (l0 : List S39) (l1 : List S45) (tr en de ac x sh : Int) : Option (Bool × Int × List Int) :=
 (impl_asked.f l0 l1 tr en de ac x sh).bind fun ok => (if ok = true then (if 0 < wrap64 (wrap64 (en - x) + 1) then (if wrap64 (wrap64 (en - x) + 1) ≤ 1000000 then ((il0 l0 l1 tr en de ac x sh (wrap64 (en - x)) k (List.replicate (wrap64 (wrap64 (en - x) + 1)).toNat (List.replicate 61 0)) (List.replicate (wrap64 (wrap64 (en - x) + 1)).toNat (List.replicate 61 false)) (wrap64 (en - x))).bind fun p => (if rd2 p.1 0 0 > 2000 then some (false,0,[]) else ((il4 l0 l1 tr en de ac x p.1 p.2 k 0 0 (rd2 p.1 0 0) []).bind fun o => some (true,rd2 p.1 0 0,o)))) else none) else none) else some (false,0,[]))
theorem IZ.start {s : GSt} {w W : World} {gp gx gr gL cL gB cB n : Nat} (pb : W.heap[gp]? = some (.cells #[.slice s.A0 s.l0.length s.c0,.slice s.A1 s.l1.length s.c1,.int .i64 s.tr,.int .i64 s.en,.int .i64 s.de] 26 (0,0))) (xb : W.heap[gx]? = some (.cells #[.int .i64 s.x] 3 (0,0))) (rb : W.heap[gr]? = some (.cells #[.bool false,.int .i64 0,.slice none 0 0] 41 (0,0)))
  (tl : arrI.R 69 W w.heap.size (fun _ => True) (.slice (some ⟨gL,0,none⟩) n cL) (List.replicate n (List.replicate 61 0))) (bl : arrB.R 68 W w.heap.size (fun _ => True) (.slice (some ⟨gB,0,none⟩) n cB) (List.replicate n (List.replicate 61 false)))
  (np : w.heap.size ≤ gp) (nx : w.heap.size ≤ gx) (nr : w.heap.size ≤ gr) (nL : w.heap.size ≤ gL) (nB : w.heap.size ≤ gB) (h1 : gL ≠ gp∧gL ≠ gx∧gL ≠ gr∧gL ≠ gB) (h2 : gB ≠ gp∧gB ≠ gx∧gB ≠ gr) (bw : Below w.heap.size w W) (rd : GRd s w) :
  IZ s w W gp gx gr gL cL gB cB n (List.replicate n (List.replicate 61 0)) (List.replicate n (List.replicate 61 false)) :=
 ⟨pb,xb,rb,by simp,by simp,⟨fun k hk => by simpa [Value.ownBlock] using hk.symm,tl.2⟩,⟨fun k hk => by simpa [Value.ownBlock] using hk.symm,bl.2⟩,np,nx,nr,nL,nB,h1,h2,bw,rd⟩

def impl_Fastest.T13 : Bool × List (List Nat × List Nat):=(true,[([],[]),([],[]),([],[]),([],[]),([],[]),([],[]),([],[]),([5,6],[5,6]),([],[]),([],[]),([8,9],[8,9]),([],[]),([10,11],[10,11]),([4,7,12],[4,7,12]),([3,13],[3,13]),([0,1],[0,1]),([15,2,0,1,2,3,4,5,6,7,8,9,10,11,12,13,14],[2,15]),([16,14,13,0,1,2,3,4,5,6,7,8,9,10,11,12,13,14],[14,16])])
def impl_Fastest.B13 : List Nat:=[0,0,0,0,0,0,0,96,0,0,768,0,3840,8176,16376,3,65535,131071]
theorem impl_Fastest.tab13 : rtab .any (opsOf Try.f16 13) = impl_Fastest.T13:=by kernel_rfl
theorem impl_Fastest.bits13 : waitsOk impl_Fastest.T13.2 impl_Fastest.B13 = true:=by kernel_rfl
set_option maxHeartbeats 80000000 in
set_option maxRecDepth 100000 in
theorem impl_Fastest.calls0 (k : Nat) (s : GSt) (r1 : Bool) (r2 : Int) (r3 : List Int) (w : World) (hr : GRd s w) (h : impl_Fastest.f k s.l0 s.l1 s.tr s.en s.de s.ac s.x s.sh = some (r1,r2,r3)) :
  Calls Try.prog 16 #[.agg #[.slice s.A0 s.l0.length s.c0,.slice s.A1 s.l1.length s.c1,.int .i64 s.tr,.int .i64 s.en,.int .i64 s.de],.int .i64 s.ac,.int .i64 s.x,.int .i64 s.sh] w fun e w' => ∃ v_ : Value,e = .returned (.agg #[.bool r1,.int .i64 r2,v_])∧Kd.R (Kd.int .i64) 3 w' w.heap.size (fun _ => True) v_ r3∧Below w.heap.size w w':=by
 have hu26:=Try.underlying26;have hu41:=Try.underlying41;have hu69:=Try.underlying69;have hu68:=Try.underlying68;have HR:=Am hr;clear hr;have HB:=Am (Below.refl w.heap.size w);have H:=h;clear h;unfold impl_Fastest.f at H;replace H:=Option.bind_eq_some_iff.mp H;obtain ⟨bg,AG0,H⟩:=H;have AG:=Am AG0;clear AG0
 go_enter Try.func16,Try.ntmps16
 cases bg with
 | false =>
  rw [if_neg (by decide)] at H;simp only [Option.some.injEq,Prod.mk.injEq] at H;obtain ⟨rfl,rfl,rfl⟩:=H
  go_wp2_with (first|((with_reducible refine gate_dst (N:=4) rfl ?_);refine box_event ?hg (N:=4) ?hd (cs:=#[.slice s.A0 s.l0.length s.c0,.slice s.A1 s.l1.length s.c1,.int .i64 s.tr,.int .i64 s.en,.int .i64 s.de]) (t:=26) ?hr ?_;(case hd => rfl);(case hg => rfl);(case hr => first|(go_simp;done)|(go_simp;rfl));intro gp hg w1 hbox hb;have GP:=Am (show w.heap.size ≤ gp from by rw [hg];exact below_size (bL HB));have n0_:=Am (below_step (bL HB) hb);clear HB;have HB:=n0_;clear n0_;have BP:=Am hbox;clear hb hbox hg)|((with_reducible refine gate_dst (N:=6) rfl ?_);refine box_event ?hg (N:=6) ?hd (cs:=#[.int .i64 s.x]) (t:=3) ?hr ?_;(case hd => rfl);(case hg => rfl);(case hr => first|(go_simp;done)|(go_simp;rfl));intro gx hg w2 hbox hb;have GX:=Am (show w.heap.size ≤ gx from by rw [hg];exact below_size (bL HB));have n0_:=Am (below_step (bL HB) hb);have n1_:=Am (blk_below (g:=gp) (o:=.cells #[.slice s.A0 s.l0.length s.c0,.slice s.A1 s.l1.length s.c1,.int .i64 s.tr,.int .i64 s.en,.int .i64 s.de] 26 (0,0)) (kL BP) hb);clear HB BP;have HB:=n0_;have BP:=n1_;clear n0_ n1_;have BX:=Am hbox;clear hb hbox hg)|((with_reducible refine gate_dst (N:=8) rfl ?_);refine box_event ?hg (N:=8) ?hd (cs:=#[.bool false,.int .i64 0,.slice none 0 0]) (t:=41) ?hr ?_;(case hd => rfl);(case hg => rfl);(case hr => first|(go_simp;done)|(go_simp;rfl));intro gr hg w3 hbox hb;have GR:=Am (show w.heap.size ≤ gr from by rw [hg];exact below_size (bL HB));have n0_:=Am (below_step (bL HB) hb);have n1_:=Am (blk_below (g:=gp) (o:=.cells #[.slice s.A0 s.l0.length s.c0,.slice s.A1 s.l1.length s.c1,.int .i64 s.tr,.int .i64 s.en,.int .i64 s.de] 26 (0,0)) (kL BP) hb);have n2_:=Am (blk_below (g:=gx) (o:=.cells #[.int .i64 s.x] 3 (0,0)) (kL BX) hb);clear HB BP BX;have HB:=n0_;have BP:=n1_;have BX:=n2_;clear n0_ n1_ n2_;have BR:=Am hbox;clear hb hbox hg;have hcp0 : w3.cell? ⟨gp,0,none⟩ = some (.slice s.A0 s.l0.length s.c0):=(kC BP.out 0).trans rfl;have hcp1 : w3.cell? ⟨gp,1,none⟩ = some (.slice s.A1 s.l1.length s.c1):=(kC BP.out 1).trans rfl;have hcp2 : w3.cell? ⟨gp,2,none⟩ = some (.int .i64 s.tr):=(kC BP.out 2).trans rfl;have hcp3 : w3.cell? ⟨gp,3,none⟩ = some (.int .i64 s.en):=(kC BP.out 3).trans rfl;have hcp4 : w3.cell? ⟨gp,4,none⟩ = some (.int .i64 s.de):=(kC BP.out 4).trans rfl;have hfp0:=kF BP.out 0;have hfp1:=kF BP.out 1;have hfp2:=kF BP.out 2;have hfp3:=kF BP.out 3;have hfp4:=kF BP.out 4;have hcx0 : w3.cell? ⟨gx,0,none⟩ = some (.int .i64 s.x):=(kC BX.out 0).trans rfl;have hfx0:=kF BX.out 0;have hcr0 : w3.cell? ⟨gr,0,none⟩ = some (.bool false):=(kC BR.out 0).trans rfl;have hcr1 : w3.cell? ⟨gr,1,none⟩ = some (.int .i64 0):=(kC BR.out 1).trans rfl;have hcr2 : w3.cell? ⟨gr,2,none⟩ = some (.slice none 0 0):=(kC BR.out 2).trans rfl;have hfr0:=kF BR.out 0;have hfr1:=kF BR.out 1;have hfr2:=kF BR.out 2)|((with_reducible refine gate_callee (f:=41) rfl ?_);(try (refine gate_guard (by rfl) ?_;dsimp only));refine goesL_ (some 27) rfl rfl Try.func41 (by kernel_rfl) rfl #[.agg #[.slice s.A0 s.l0.length s.c0,.slice s.A1 s.l1.length s.c1,.int .i64 s.tr,.int .i64 s.en,.int .i64 s.de],.int .i64 s.ac,.int .i64 s.x,.int .i64 s.sh] rfl lA ?_;(with_reducible refine (impl_asked.calls _ _ s.l0 _ _ s.l1 s.tr s.en s.de s.ac s.x s.sh false _ (GRd.below HR.out (bL HB)).k0 HR.out.n0 (GRd.below HR.out (bL HB)).k1 HR.out.n1 AG.out).mono ?_);rintro e w4 ⟨rfl,hb⟩;refine ⟨_,rfl,?_⟩;have n0_:=Am (below_step (bL HB) hb);have n1_:=Am (blk_below (g:=gp) (o:=.cells #[.slice s.A0 s.l0.length s.c0,.slice s.A1 s.l1.length s.c1,.int .i64 s.tr,.int .i64 s.en,.int .i64 s.de] 26 (0,0)) (kL BP) hb);have n2_:=Am (blk_below (g:=gx) (o:=.cells #[.int .i64 s.x] 3 (0,0)) (kL BX) hb);have n3_:=Am (blk_below (g:=gr) (o:=.cells #[.bool false,.int .i64 0,.slice none 0 0] 41 (0,0)) (kL BR) hb);clear HB BP BX BR;have HB:=n0_;have BP:=n1_;have BX:=n2_;have BR:=n3_;clear n0_ n1_ n2_ n3_;clear hb;have hcpp0 : w4.cell? ⟨gp,0,none⟩ = some (.slice s.A0 s.l0.length s.c0):=(kC BP.out 0).trans rfl;have hcpp1 : w4.cell? ⟨gp,1,none⟩ = some (.slice s.A1 s.l1.length s.c1):=(kC BP.out 1).trans rfl;have hcpp2 : w4.cell? ⟨gp,2,none⟩ = some (.int .i64 s.tr):=(kC BP.out 2).trans rfl;have hcpp3 : w4.cell? ⟨gp,3,none⟩ = some (.int .i64 s.en):=(kC BP.out 3).trans rfl;have hcpp4 : w4.cell? ⟨gp,4,none⟩ = some (.int .i64 s.de):=(kC BP.out 4).trans rfl;have hfpp0:=kF BP.out 0;have hfpp1:=kF BP.out 1;have hfpp2:=kF BP.out 2;have hfpp3:=kF BP.out 3;have hfpp4:=kF BP.out 4;have hcxx0 : w4.cell? ⟨gx,0,none⟩ = some (.int .i64 s.x):=(kC BX.out 0).trans rfl;have hfxx0:=kF BX.out 0;have hcrr0 : w4.cell? ⟨gr,0,none⟩ = some (.bool false):=(kC BR.out 0).trans rfl;have hcrr1 : w4.cell? ⟨gr,1,none⟩ = some (.int .i64 0):=(kC BR.out 1).trans rfl;have hcrr2 : w4.cell? ⟨gr,2,none⟩ = some (.slice none 0 0):=(kC BR.out 2).trans rfl;have hfrr0:=kF BR.out 0;have hfrr1:=kF BR.out 1;have hfrr2:=kF BR.out 2))
  refine bodyPost_ret (results_cell_row rfl _ _ gr 41 #[.bool false,.int .i64 0,.slice none 0 0] (0,0) _ rfl (by (with_reducible repeat (first|refine kN ?_ _|refine kD ?_|refine kA ?_ _));refine blk_put (cs:=#[.bool false,.int .i64 0,.slice none 0 0]) ?_ 2 _ rfl;(with_reducible repeat (first|refine kN ?_ _|refine kD ?_|refine kA ?_ _));refine blk_put (cs:=#[.bool false,.int .i64 0,.slice none 0 0]) ?_ 1 _ rfl;(with_reducible repeat (first|refine kN ?_ _|refine kD ?_|refine kA ?_ _));refine blk_put (cs:=#[.bool false,.int .i64 0,.slice none 0 0]) ?_ 0 _ rfl;(with_reducible repeat (first|refine kN ?_ _|refine kD ?_|refine kA ?_ _));skip;exact BR.out) Try.underlying41 rfl (by kernel_rfl)) rfl ?_;exact ⟨.slice none 0 0,by rfl,Kd.R_nil _ _ _ _ _,by repeat (first|(with_reducible first|exact HB.out|apply bA|apply bN|apply bD|refine bS ?_ GR.out)|exact HB.out)⟩
 | true =>
  rw [if_pos rfl] at H
  by_cases c1 : 0 < wrap64 ((wrap64 (s.en - s.x)) + 1)
  case neg => rw [if_neg c1] at H;cases H
  rw [if_pos c1] at H
  by_cases c2 : wrap64 ((wrap64 (s.en - s.x)) + 1) ≤ 1000000
  case neg => rw [if_neg c2] at H;cases H
  rw [if_pos c2] at H
  obtain ⟨n,hn⟩ : ∃ n : Nat,wrap64 ((wrap64 (s.en - s.x)) + 1) = (n : Int):=⟨(wrap64 ((wrap64 (s.en - s.x)) + 1)).toNat,by omega⟩
  rw [hn] at c1 c2 H;rw [Int.toNat_natCast] at H;have HN:=Am hn;have C1:=Am (show 0 < n by omega);have C2:=Am (show n ≤ 1000000 by omega);clear c1 c2 hn;replace H:=Option.bind_eq_some_iff.mp H;obtain ⟨⟨T1,B1⟩,A00,H⟩:=H;have A0:=Am A00;clear A00;have H0:=Am H;clear H
  go_wp2_with (first|((with_reducible refine gate_dst (N:=4) rfl ?_);refine box_event ?hg (N:=4) ?hd (cs:=#[.slice s.A0 s.l0.length s.c0,.slice s.A1 s.l1.length s.c1,.int .i64 s.tr,.int .i64 s.en,.int .i64 s.de]) (t:=26) ?hr ?_;(case hd => rfl);(case hg => rfl);(case hr => first|(go_simp;done)|(go_simp;rfl));intro gp hg w1 hbox hb;have GP:=Am (show w.heap.size ≤ gp from by rw [hg];exact below_size (bL HB));have n0_:=Am (below_step (bL HB) hb);clear HB;have HB:=n0_;clear n0_;have BP:=Am hbox;clear hb hbox hg)|((with_reducible refine gate_dst (N:=6) rfl ?_);refine box_event ?hg (N:=6) ?hd (cs:=#[.int .i64 s.x]) (t:=3) ?hr ?_;(case hd => rfl);(case hg => rfl);(case hr => first|(go_simp;done)|(go_simp;rfl));intro gx hg w2 hbox hb;have GX:=Am (show w.heap.size ≤ gx from by rw [hg];exact below_size (bL HB));have n0_:=Am (below_step (bL HB) hb);have n1_:=Am (blk_below (g:=gp) (o:=.cells #[.slice s.A0 s.l0.length s.c0,.slice s.A1 s.l1.length s.c1,.int .i64 s.tr,.int .i64 s.en,.int .i64 s.de] 26 (0,0)) (kL BP) hb);clear HB BP;have HB:=n0_;have BP:=n1_;clear n0_ n1_;have BX:=Am hbox;clear hb hbox hg)|((with_reducible refine gate_dst (N:=8) rfl ?_);refine box_event ?hg (N:=8) ?hd (cs:=#[.bool false,.int .i64 0,.slice none 0 0]) (t:=41) ?hr ?_;(case hd => rfl);(case hg => rfl);(case hr => first|(go_simp;done)|(go_simp;rfl));intro gr hg w3 hbox hb;have GR:=Am (show w.heap.size ≤ gr from by rw [hg];exact below_size (bL HB));have n0_:=Am (below_step (bL HB) hb);have n1_:=Am (blk_below (g:=gp) (o:=.cells #[.slice s.A0 s.l0.length s.c0,.slice s.A1 s.l1.length s.c1,.int .i64 s.tr,.int .i64 s.en,.int .i64 s.de] 26 (0,0)) (kL BP) hb);have n2_:=Am (blk_below (g:=gx) (o:=.cells #[.int .i64 s.x] 3 (0,0)) (kL BX) hb);clear HB BP BX;have HB:=n0_;have BP:=n1_;have BX:=n2_;clear n0_ n1_ n2_;have BR:=Am hbox;clear hb hbox hg;have hcp0 : w3.cell? ⟨gp,0,none⟩ = some (.slice s.A0 s.l0.length s.c0):=(kC BP.out 0).trans rfl;have hcp1 : w3.cell? ⟨gp,1,none⟩ = some (.slice s.A1 s.l1.length s.c1):=(kC BP.out 1).trans rfl;have hcp2 : w3.cell? ⟨gp,2,none⟩ = some (.int .i64 s.tr):=(kC BP.out 2).trans rfl;have hcp3 : w3.cell? ⟨gp,3,none⟩ = some (.int .i64 s.en):=(kC BP.out 3).trans rfl;have hcp4 : w3.cell? ⟨gp,4,none⟩ = some (.int .i64 s.de):=(kC BP.out 4).trans rfl;have hfp0:=kF BP.out 0;have hfp1:=kF BP.out 1;have hfp2:=kF BP.out 2;have hfp3:=kF BP.out 3;have hfp4:=kF BP.out 4;have hcx0 : w3.cell? ⟨gx,0,none⟩ = some (.int .i64 s.x):=(kC BX.out 0).trans rfl;have hfx0:=kF BX.out 0;have hcr0 : w3.cell? ⟨gr,0,none⟩ = some (.bool false):=(kC BR.out 0).trans rfl;have hcr1 : w3.cell? ⟨gr,1,none⟩ = some (.int .i64 0):=(kC BR.out 1).trans rfl;have hcr2 : w3.cell? ⟨gr,2,none⟩ = some (.slice none 0 0):=(kC BR.out 2).trans rfl;have hfr0:=kF BR.out 0;have hfr1:=kF BR.out 1;have hfr2:=kF BR.out 2)|((with_reducible refine gate_callee (f:=41) rfl ?_);(try (refine gate_guard (by rfl) ?_;dsimp only));refine goesL_ (some 27) rfl rfl Try.func41 (by kernel_rfl) rfl #[.agg #[.slice s.A0 s.l0.length s.c0,.slice s.A1 s.l1.length s.c1,.int .i64 s.tr,.int .i64 s.en,.int .i64 s.de],.int .i64 s.ac,.int .i64 s.x,.int .i64 s.sh] rfl lA ?_;(with_reducible refine (impl_asked.calls _ _ s.l0 _ _ s.l1 s.tr s.en s.de s.ac s.x s.sh true _ (GRd.below HR.out (bL HB)).k0 HR.out.n0 (GRd.below HR.out (bL HB)).k1 HR.out.n1 AG.out).mono ?_);rintro e w4 ⟨rfl,hb⟩;refine ⟨_,rfl,?_⟩;have n0_:=Am (below_step (bL HB) hb);have n1_:=Am (blk_below (g:=gp) (o:=.cells #[.slice s.A0 s.l0.length s.c0,.slice s.A1 s.l1.length s.c1,.int .i64 s.tr,.int .i64 s.en,.int .i64 s.de] 26 (0,0)) (kL BP) hb);have n2_:=Am (blk_below (g:=gx) (o:=.cells #[.int .i64 s.x] 3 (0,0)) (kL BX) hb);have n3_:=Am (blk_below (g:=gr) (o:=.cells #[.bool false,.int .i64 0,.slice none 0 0] 41 (0,0)) (kL BR) hb);clear HB BP BX BR;have HB:=n0_;have BP:=n1_;have BX:=n2_;have BR:=n3_;clear n0_ n1_ n2_ n3_;clear hb;have hcpp0 : w4.cell? ⟨gp,0,none⟩ = some (.slice s.A0 s.l0.length s.c0):=(kC BP.out 0).trans rfl;have hcpp1 : w4.cell? ⟨gp,1,none⟩ = some (.slice s.A1 s.l1.length s.c1):=(kC BP.out 1).trans rfl;have hcpp2 : w4.cell? ⟨gp,2,none⟩ = some (.int .i64 s.tr):=(kC BP.out 2).trans rfl;have hcpp3 : w4.cell? ⟨gp,3,none⟩ = some (.int .i64 s.en):=(kC BP.out 3).trans rfl;have hcpp4 : w4.cell? ⟨gp,4,none⟩ = some (.int .i64 s.de):=(kC BP.out 4).trans rfl;have hfpp0:=kF BP.out 0;have hfpp1:=kF BP.out 1;have hfpp2:=kF BP.out 2;have hfpp3:=kF BP.out 3;have hfpp4:=kF BP.out 4;have hcxx0 : w4.cell? ⟨gx,0,none⟩ = some (.int .i64 s.x):=(kC BX.out 0).trans rfl;have hfxx0:=kF BX.out 0;have hcrr0 : w4.cell? ⟨gr,0,none⟩ = some (.bool false):=(kC BR.out 0).trans rfl;have hcrr1 : w4.cell? ⟨gr,1,none⟩ = some (.int .i64 0):=(kC BR.out 1).trans rfl;have hcrr2 : w4.cell? ⟨gr,2,none⟩ = some (.slice none 0 0):=(kC BR.out 2).trans rfl;have hfrr0:=kF BR.out 0;have hfrr1:=kF BR.out 1;have hfrr2:=kF BR.out 2)|((with_reducible refine gate_dst (N:=36) rfl ?_);refine Kd.R_make arrI (w0:=w) w.heap.size 69 rfl (N:=36) rfl 66 _ _ rfl (n : Int) (congrArg (Value.int .i64) HN.out) (congrArg (Value.int .i64) HN.out) Try.underlying66 (.agg (Array.replicate 61 (.int .i64 0))) 488 finfoI zeroI (show 0 < 61 by omega) (by omega) (List.replicate 61 0) (ok:=fun _ => True) (okp:=fun _ => True) ⟨by simp,zeroI'⟩ (fun _ hk => hk) trivial (by omega) (by have:=C2.out;omega) ?aB36 ?aS36 ?_;(case aB36 => repeat (first|(with_reducible first|exact HB.out|apply bA|apply bN|apply bD)|exact HB.out));(case aS36 => exact below_size (bL HB));intro v5 w5 ho hb hg_ hat;rw [Int.toNat_natCast] at ho;obtain ⟨gL,cL,e1,hgl,hgs,hcc⟩:=Kd.R_form ho (by rw [List.length_replicate];have:=C1.out;omega);rw [List.length_replicate] at e1;subst e1;have GL:=Am hgl;obtain ⟨b_,hb1_,hb2_⟩:=hat;have eL_ : b_ = gL:=(by simpa [Value.ownBlock] using hb1_.symm);have NL:=Am (show gL ≠ gp∧gL ≠ gx∧gL ≠ gr from by rw [← eL_];exact ⟨Nat.ne_of_gt (Nat.lt_of_lt_of_le (blk_lt (g:=gp) (o:=.cells #[.slice s.A0 s.l0.length s.c0,.slice s.A1 s.l1.length s.c1,.int .i64 s.tr,.int .i64 s.en,.int .i64 s.de] 26 (0,0)) (kL BP)) hb2_),Nat.ne_of_gt (Nat.lt_of_lt_of_le (blk_lt (g:=gx) (o:=.cells #[.int .i64 s.x] 3 (0,0)) (kL BX)) hb2_),Nat.ne_of_gt (Nat.lt_of_lt_of_le (blk_lt (g:=gr) (o:=.cells #[.bool false,.int .i64 0,.slice none 0 0] 41 (0,0)) (kL BR)) hb2_)⟩);have HTL:=Am ho;have n0_:=Am hb;have n1_:=Am (blk_grown (g:=gp) (o:=.cells #[.slice s.A0 s.l0.length s.c0,.slice s.A1 s.l1.length s.c1,.int .i64 s.tr,.int .i64 s.en,.int .i64 s.de] 26 (0,0)) (kL BP) hg_ (by simp));have n2_:=Am (blk_grown (g:=gx) (o:=.cells #[.int .i64 s.x] 3 (0,0)) (kL BX) hg_ (by simp));have n3_:=Am (blk_grown (g:=gr) (o:=.cells #[.bool false,.int .i64 0,.slice none 0 0] 41 (0,0)) (kL BR) hg_ (by simp));clear HB BP BX BR;have HB:=n0_;have BP:=n1_;have BX:=n2_;have BR:=n3_;clear n0_ n1_ n2_ n3_;clear ho hb hg_ hgl hgs hcc hb1_ hb2_ eL_)|((with_reducible refine gate_dst (N:=39) rfl ?_);refine Kd.R_make arrB (w0:=w) w.heap.size 68 rfl (N:=39) rfl 67 _ _ rfl (n : Int) (congrArg (Value.int .i64) HN.out) (congrArg (Value.int .i64) HN.out) Try.underlying67 (.agg (Array.replicate 61 (.bool false))) 61 finfoB zeroB (show 0 < 61 by omega) (by omega) (List.replicate 61 false) (ok:=fun _ => True) (okp:=fun _ => True) ⟨by simp,zeroB'⟩ (fun _ hk => hk) trivial (by omega) (by have:=C2.out;omega) ?aB39 ?aS39 ?_;(case aB39 => repeat (first|(with_reducible first|exact HB.out|apply bA|apply bN|apply bD)|exact HB.out));(case aS39 => exact below_size (bL HB));intro v6 w6 ho hb hg_ hat;rw [Int.toNat_natCast] at ho;obtain ⟨gB,cB,e1,hgl,hgs,hcc⟩:=Kd.R_form ho (by rw [List.length_replicate];have:=C1.out;omega);rw [List.length_replicate] at e1;subst e1;obtain ⟨b_,hb1_,hb2_⟩:=hat;have eL_ : b_ = gB:=(by simpa [Value.ownBlock] using hb1_.symm);have NBB:=Am (show gB ≠ gp∧gB ≠ gx∧gB ≠ gr from by rw [← eL_];exact ⟨Nat.ne_of_gt (Nat.lt_of_lt_of_le (blk_lt (g:=gp) (o:=.cells #[.slice s.A0 s.l0.length s.c0,.slice s.A1 s.l1.length s.c1,.int .i64 s.tr,.int .i64 s.en,.int .i64 s.de] 26 (0,0)) (kL BP)) hb2_),Nat.ne_of_gt (Nat.lt_of_lt_of_le (blk_lt (g:=gx) (o:=.cells #[.int .i64 s.x] 3 (0,0)) (kL BX)) hb2_),Nat.ne_of_gt (Nat.lt_of_lt_of_le (blk_lt (g:=gr) (o:=.cells #[.bool false,.int .i64 0,.slice none 0 0] 41 (0,0)) (kL BR)) hb2_)⟩);have NLB:=Am (show gL ≠ gB from by rw [← eL_];exact Nat.ne_of_lt (Nat.lt_of_lt_of_le (Kd.R_lt ((rL HTL)) gL (by simp [Value.ownBlock])) hb2_));have HTL2:=Am (Kd.R_step ((rL HTL)) (fun k_ _ hlt => hg_.block k_ hlt (by simp)));have n0_:=Am hb;have n1_:=Am (blk_grown (g:=gp) (o:=.cells #[.slice s.A0 s.l0.length s.c0,.slice s.A1 s.l1.length s.c1,.int .i64 s.tr,.int .i64 s.en,.int .i64 s.de] 26 (0,0)) (kL BP) hg_ (by simp));have n2_:=Am (blk_grown (g:=gx) (o:=.cells #[.int .i64 s.x] 3 (0,0)) (kL BX) hg_ (by simp));have n3_:=Am (blk_grown (g:=gr) (o:=.cells #[.bool false,.int .i64 0,.slice none 0 0] 41 (0,0)) (kL BR) hg_ (by simp));clear HB BP BX BR;have HB:=n0_;have BP:=n1_;have BX:=n2_;have BR:=n3_;clear n0_ n1_ n2_ n3_;have HS:=Am (IZ.start BP.out BX.out BR.out HTL2.out ho GP.out GX.out GR.out GL.out hgl ⟨NL.out.1,NL.out.2.1,NL.out.2.2,NLB.out⟩ NBB.out HB.out HR.out);clear ho hb hg_ hgl hgs hcc hb1_ hb2_ eL_ HTL HTL2 NL NBB NLB BP BX BR HB))
  go_loopg [13] k (fun kq v13 w' => ∃ (a : Int) (T : List (List Int)) (B : List (List Bool)),v13 = .int .i64 a∧As (il0 s.l0 s.l1 s.tr s.en s.de s.ac s.x s.sh (wrap64 (s.en - s.x)) kq T B a = some (T1,B1))∧As (kq ≤ k)∧As (IZ s w w' gp gx gr gL cL gB cB n T B))
  case atStart => exact ⟨_,_,_,by first|rfl|(simp;done)|(simp [*];done),A0,⟨Nat.le_refl _⟩,⟨by (with_reducible repeat (first|refine IZ.drewN ?_ _|refine IZ.drew ?_|refine IZ.alloc ?_ _));exact HS.out⟩⟩
  case round =>
   clear A0 HS;obtain ⟨a,T,B,rfl,HA,HK1,HS⟩:=hrel
   cases gk with
   | zero => exact absurd HA.out (by simp [il0])
   | succ k1 =>
   have H:=HA.out;clear HA;simp only [il0] at H
   by_cases c3 : a ≥ 0
   case pos =>
    rw [if_pos c3] at H;have c3b0 : decide (a ≥ 0) = true:=decide_eq_true c3;clear c3;replace H:=Option.bind_eq_some_iff.mp H;obtain ⟨B2,AB0,H⟩:=H;have AB:=Am AB0;clear AB0;replace H:=Option.bind_eq_some_iff.mp H;obtain ⟨T2,AT0,H⟩:=H;have AT:=Am AT0;clear AT0;have H':=Am H;clear H;go_wp2
    go_loopg [14] k1 (fun kq v14 w' => ∃ (z : Int) (B0 : List (List Bool)),v14 = .int .i64 z∧As (il1 s.l0 s.l1 s.tr s.en s.de s.x (wrap64 (s.en - s.x)) a kq B0 z = some B2)∧As (kq ≤ k1)∧As (IZ s w w' gp gx gr gL cL gB cB n T B0))
    case atStart => exact ⟨1,B,by first|rfl|(simp;done)|(simp [*];done),AB,⟨Nat.le_refl _⟩,⟨by (with_reducible repeat (first|refine IZ.drewN ?_ _|refine IZ.drew ?_|refine IZ.alloc ?_ _));exact HS.out⟩⟩
    case round =>
     clear AB HS c3b0;obtain ⟨z,B0,rfl,HA,HK2,HS⟩:=hrel
     cases gk with
     | zero => exact absurd HA.out (by simp [il1])
     | succ k2 =>
     have H:=HA.out;clear HA;simp only [il1] at H;have H0_:=Am H;clear H
     go_upto_region 11 with fail
     go_cut [54] (fun v54 wc => ∃ (b : Bool),v54 = .bool b∧As (IffB b (z ≤ 60∧wrap64 (a + z) ≤ (wrap64 (s.en - s.x))))∧As (IZ s w wc gp gx gr gL cL gB cB n T B0))
     case first =>
      by_cases c4 : z ≤ 60
      case pos =>
       have C4:=Am c4;have c4b0 : decide (z ≤ 60) = true:=decide_eq_true c4;clear c4
       by_cases c5 : wrap64 (a + z) ≤ (wrap64 (s.en - s.x))
       case pos =>
        have C5:=Am c5;have c5b0 : decide (wrap64 (a + z) ≤ (wrap64 (s.en - s.x))) = true:=decide_eq_true c5;clear c5;go_wp2
        go_meet
        case rel => exact ⟨true,by first|rfl|(simp;done)|(simp [*];done),⟨⟨fun _ => ⟨C4.out,C5.out⟩,fun _ => rfl⟩⟩,⟨by (with_reducible repeat (first|refine IZ.drewN ?_ _|refine IZ.drew ?_|refine IZ.alloc ?_ _));exact HS.out⟩⟩
       case neg =>
        have C5:=Am c5;have c5b0 : decide (wrap64 (a + z) ≤ (wrap64 (s.en - s.x))) = false:=decide_eq_false c5;clear c5;go_wp2
        go_meet
        case rel => exact ⟨false,by first|rfl|(simp;done)|(simp [*];done),⟨⟨fun h_ => (by cases h_),fun h_ => by have:=C5.out;omega⟩⟩,⟨by (with_reducible repeat (first|refine IZ.drewN ?_ _|refine IZ.drew ?_|refine IZ.alloc ?_ _));exact HS.out⟩⟩
      case neg =>
       have C4:=Am c4;have c4b0 : decide (z ≤ 60) = false:=decide_eq_false c4;clear c4;go_wp2
       go_meet
       case rel => exact ⟨false,by first|rfl|(simp;done)|(simp [*];done),⟨⟨fun h_ => (by cases h_),fun h_ => by have:=C4.out;omega⟩⟩,⟨by (with_reducible repeat (first|refine IZ.drewN ?_ _|refine IZ.drew ?_|refine IZ.alloc ?_ _));exact HS.out⟩⟩
     case rest =>
      clear HS;obtain ⟨b,rfl,HBB,HS⟩:=hcut;have H:=H0_.out;clear H0_
      cases b with
      | true =>
       rw [if_pos (HBB.out.1 rfl)] at H;clear HBB;replace H:=Option.bind_eq_some_iff.mp H;obtain ⟨t,At0,H⟩:=H;have At:=Am At0;clear At0;rw [HS.out.bn] at H
       by_cases c6 : 0 ≤ a∧a < (n : Int)∧0 ≤ z∧z < 61
       case neg => rw [if_neg c6] at H;cases H
       rw [if_pos c6] at H;have C6:=Am c6;have pa : (0 ≤ a) = True:=eq_true (c6.1);have qa : (a < (n : Int)) = True:=eq_true (c6.2.1);have pz : (0 ≤ z) = True:=eq_true (c6.2.2.1);have qz : (z < 61) = True:=eq_true (c6.2.2.2);clear c6;have H'':=Am H;clear H;go_wp2;have n0_:=Am (IZ.drew HS.out);clear HS;have HS:=n0_;clear n0_;refine start_ (n:=18) (S:=fun w' => w'.cell? ⟨gp,0,none⟩ = some (.slice s.A0 s.l0.length s.c0)∧w'.cell? ⟨gp,1,none⟩ = some (.slice s.A1 s.l1.length s.c1)∧w'.cell? ⟨gp,2,none⟩ = some (.int .i64 s.tr)∧w'.cell? ⟨gp,3,none⟩ = some (.int .i64 s.en)∧w'.cell? ⟨gp,4,none⟩ = some (.int .i64 s.de)∧w'.cell? ⟨gx,0,none⟩ = some (.int .i64 s.x)) (ds:=[17]) #[false,false,false,false,false,false,false,false,false,false,false,false,false,false,false,false,false,false] (by kernel_rfl) rfl rfl ⟨(kC HS.out.pb 0).trans rfl,(kC HS.out.pb 1).trans rfl,(kC HS.out.pb 2).trans rfl,(kC HS.out.pb 3).trans rfl,(kC HS.out.pb 4).trans rfl,(kC HS.out.xb 0).trans rfl⟩ (fun hHeld => ?_);refine with_tabW impl_Fastest.tab13 impl_Fastest.bits13 (fun HT_ HW_ => ?_);generalize wc.drew = w7 at HS hHeld ⊢;refine pure_ (i:=0) (N:=some 57) (v:=?_) (a':=?_) #[true,false,false,false,false,false,false,false,false,false,false,false,false,false,false,false,false,false] rfl rfl (any_of HT_.out (by kernel_rfl)) (fun _ _ _ h => h) (Or.inl ⟨by rfl,?_⟩) ?_ ?_;rotate_left
       ·intro w'
        go_simp
        with_reducible rfl
       rotate_left
       ·simp only [Act.put,pS]
        rfl
       refine pure_ (i:=1) (N:=some 58) (v:=?_) (a':=?_) #[true,true,false,false,false,false,false,false,false,false,false,false,false,false,false,false,false,false] rfl rfl (any_of HT_.out (by kernel_rfl)) (fun _ _ _ h => h) (Or.inl ⟨by rfl,?_⟩) ?_ ?_;rotate_left
       ·intro w'
        go_simp
        with_reducible rfl
       rotate_left
       ·simp only [Act.put,pS]
        rfl
       refine pure_ (i:=2) (N:=some 59) (v:=?_) (a':=?_) #[true,true,true,false,false,false,false,false,false,false,false,false,false,false,false,false,false,false] rfl rfl (any_of HT_.out (by kernel_rfl)) (fun _ _ _ h => h) (Or.inl ⟨by rfl,?_⟩) ?_ ?_;rotate_left
       ·intro w'
        go_simp
        with_reducible rfl
       rotate_left
       ·simp only [Act.put,pS]
        rfl
       refine pure_ (i:=3) (N:=some 60) (v:=?_) (a':=?_) #[true,true,true,true,false,false,false,false,false,false,false,false,false,false,false,false,false,false] rfl rfl (any_of HT_.out (by kernel_rfl)) (fun _ _ _ h => h) (Or.inl ⟨by rfl,?_⟩) ?_ ?_;rotate_left
       ·intro w'
        go_simp
        with_reducible rfl
       rotate_left
       ·simp only [Act.put,pS]
        rfl
       refine pure_ (i:=6) (N:=some 63) (v:=?_) (a':=?_) #[true,true,true,true,false,false,true,false,false,false,false,false,false,false,false,false,false,false] rfl rfl (any_of HT_.out (by kernel_rfl)) (fun _ _ _ h => h) (Or.inl ⟨by rfl,?_⟩) ?_ ?_;rotate_left
       ·intro w'
        go_simp
        with_reducible rfl
       rotate_left
       ·simp only [Act.put,pS]
        rfl
       refine pure_ (i:=9) (N:=some 66) (v:=?_) (a':=?_) #[true,true,true,true,false,false,true,false,false,true,false,false,false,false,false,false,false,false] rfl rfl (any_of HT_.out (by kernel_rfl)) (fun _ _ _ h => h) (Or.inl ⟨by rfl,?_⟩) ?_ ?_;rotate_left
       ·intro w'
        go_simp
        with_reducible rfl
       rotate_left
       ·simp only [Act.put,pS]
        rfl
       refine pure_ (i:=11) (N:=some 68) (v:=?_) (a':=?_) #[true,true,true,true,false,false,true,false,false,true,false,true,false,false,false,false,false,false] rfl rfl (any_of HT_.out (by kernel_rfl)) (fun _ _ _ h => h) (Or.inl ⟨by rfl,?_⟩) ?_ ?_;rotate_left
       ·intro w'
        go_simp
        with_reducible rfl
       rotate_left
       ·simp only [Act.put,pS]
        rfl
       refine pure_ (i:=15) (N:=some 72) (v:=?_) (a':=?_) #[true,true,true,true,false,false,true,false,false,true,false,true,false,false,false,true,false,false] rfl rfl (any_of HT_.out (by kernel_rfl)) (fun _ _ _ h => h) (Or.inl ⟨by rfl,?_⟩) ?_ ?_;rotate_left
       ·intro w'
        go_simp
        with_reducible rfl
       rotate_left
       ·simp only [Act.put,pS]
        rfl
       refine take_ (i:=4) (N:=some 61) (v:=?_) (a':=?_) #[true,true,true,true,true,false,true,false,false,true,false,true,false,false,false,true,false,false] rfl rfl (take_ofW HT_.out HW_.out (by kernel_rfl)) (fun _ _ _ h => h) (Or.inl ⟨by rfl,?_⟩) hHeld ?_ ?_;rotate_left
       ·rintro w' ⟨s0,s1,s2,s3,s4,s5⟩
        go_simp
        with_reducible rfl
       rotate_left
       ·simp only [Act.put,pS]
        rfl
       refine take_ (i:=5) (N:=some 62) (v:=?_) (a':=?_) #[true,true,true,true,true,true,true,false,false,true,false,true,false,false,false,true,false,false] rfl rfl (take_ofW HT_.out HW_.out (by kernel_rfl)) (fun _ _ _ h => h) (Or.inl ⟨by rfl,?_⟩) hHeld ?_ ?_;rotate_left
       ·rintro w' ⟨s0,s1,s2,s3,s4,s5⟩
        go_simp
        with_reducible rfl
       rotate_left
       ·simp only [Act.put,pS]
        rfl
       refine pure_ (i:=7) (N:=some 64) (v:=?_) (a':=?_) #[true,true,true,true,true,true,true,true,false,true,false,true,false,false,false,true,false,false] rfl rfl (any_of HT_.out (by kernel_rfl)) (fun _ _ _ h => h) (Or.inl ⟨by rfl,?_⟩) ?_ ?_;rotate_left
       ·intro w'
        go_simp
        with_reducible rfl
       rotate_left
       ·simp only [Act.put,pS]
        rfl
       refine take_ (i:=8) (N:=some 65) (v:=?_) (a':=?_) #[true,true,true,true,true,true,true,true,true,true,false,true,false,false,false,true,false,false] rfl rfl (take_ofW HT_.out HW_.out (by kernel_rfl)) (fun _ _ _ h => h) (Or.inl ⟨by rfl,?_⟩) hHeld ?_ ?_;rotate_left
       ·rintro w' ⟨s0,s1,s2,s3,s4,s5⟩
        go_simp
        with_reducible rfl
       rotate_left
       ·simp only [Act.put,pS]
        rfl
       refine pure_ (i:=10) (N:=some 67) (v:=?_) (a':=?_) #[true,true,true,true,true,true,true,true,true,true,true,true,false,false,false,true,false,false] rfl rfl (any_of HT_.out (by kernel_rfl)) (fun _ _ _ h => h) (Or.inl ⟨by rfl,?_⟩) ?_ ?_;rotate_left
       ·intro w'
        go_simp
        with_reducible rfl
       rotate_left
       ·simp only [Act.put,pS]
        rfl
       refine pure_ (i:=12) (N:=some 69) (v:=?_) (a':=?_) #[true,true,true,true,true,true,true,true,true,true,true,true,true,false,false,true,false,false] rfl rfl (any_of HT_.out (by kernel_rfl)) (fun _ _ _ h => h) (Or.inl ⟨by rfl,?_⟩) ?_ ?_;rotate_left
       ·intro w'
        go_simp
        with_reducible rfl
       rotate_left
       ·simp only [Act.put,pS]
        rfl
       refine one_ (i:=13) (N:=some 70) #[true,true,true,true,true,true,true,true,true,true,true,true,true,true,false,true,false,false] rfl rfl (one_of HT_.out (by kernel_rfl)) (by decide) (fun K hK => ?_);refine goes_ Try.func43 (by kernel_rfl) rfl #[.agg #[.slice s.A0 s.l0.length s.c0,.slice s.A1 s.l1.length s.c1,.int .i64 s.tr,.int .i64 s.en,.int .i64 s.de],.int .i64 (wrap64 (s.x + a)),.int .i64 (wrap64 (wrap64 (s.x + a) + z))] (by rfl) rfl rfl lA ?_
       with_reducible refine (impl_touched.calls k2 _ _ s.l0 _ _ s.l1 s.tr s.en s.de (wrap64 (s.x + a)) (wrap64 (wrap64 (s.x + a) + z)) t _ (IZ.grd HS.out).k0 HS.out.rd.n0 (IZ.grd HS.out).k1 HS.out.rd.n1 At.out).mono ?_
       rintro e w8 ⟨rfl,hb⟩;refine ⟨_,rfl,?_⟩;have n0_:=Am (IZ.below HS.out hb);clear HS;have HS:=n0_;clear n0_ hb;refine hK.out _ _ ⟨(kC HS.out.pb 0).trans rfl,(kC HS.out.pb 1).trans rfl,(kC HS.out.pb 2).trans rfl,(kC HS.out.pb 3).trans rfl,(kC HS.out.pb 4).trans rfl,(kC HS.out.xb 0).trans rfl⟩ (fun hHeld => ?_);clear hK K;refine norm_ (a':=?_) ?_ ?_;rotate_left
       ·show Act.put _ (some 70) _ = _
        simp only [Act.put,pS]
        rfl
       refine pure_ (i:=14) (N:=some 71) (v:=?_) (a':=?_) #[true,true,true,true,true,true,true,true,true,true,true,true,true,true,true,true,false,false] rfl rfl (any_of HT_.out (by kernel_rfl)) (fun _ _ _ h => h) (Or.inl ⟨by rfl,?_⟩) ?_ ?_;rotate_left
       ·intro w'
        go_simp
        with_reducible rfl
       rotate_left
       ·simp only [Act.put,pS]
        rfl
       refine pure_ (i:=16) (N:=some 73) (v:=?_) (a':=?_) #[true,true,true,true,true,true,true,true,true,true,true,true,true,true,true,true,true,false] rfl rfl (any_of HT_.out (by kernel_rfl)) (fun _ _ _ h => h) (Or.inl ⟨by rfl,?_⟩) ?_ ?_;rotate_left
       ·intro w'
        go_simp
        with_reducible rfl
       rotate_left
       ·simp only [Act.put,pS]
        rfl
       refine last_ (i:=17) (N:=none) #[true,true,true,true,true,true,true,true,true,true,true,true,true,true,true,true,true,true] rfl rfl (one_of HT_.out (by kernel_rfl)) (by decide) (fun K hK => ?_);obtain ⟨hx5_0,hf5_0⟩:=IZ.atB HS.out a z C6.out.1 C6.out.2.1 C6.out.2.2.1 C6.out.2.2.2;refine skip_ (w1:=?_) (by rfl) rfl ?_ ?_;rotate_left
       ·go_simp
        rfl
       refine hK.out _ _ ?_;clear hK K;refine done_ (done_of HT_.out (by kernel_rfl)) ?_;have n0_:=Am (IZ.setB HS.out a z (decide (z ≤ t)) C6.out.1 C6.out.2.1 C6.out.2.2.1 C6.out.2.2.2);clear HS;have HS:=n0_;clear n0_ hx5_0 hf5_0;generalize w8.setCell ⟨gB,a.toNat * 61 + z.toNat,none⟩ (.bool (decide (z ≤ t))) = w9 at HS ⊢;go_wp2
       go_roundg k2
       case measure => omega
       case rel => exact ⟨wrap64 (z + 1),up2 B0 a z (decide (z ≤ t)),by first|rfl|(simp;done)|(simp [*];done),H'',⟨by have:=HK2.out;omega⟩,⟨by (with_reducible repeat (first|refine IZ.drewN ?_ _|refine IZ.drew ?_|refine IZ.alloc ?_ _));exact HS.out⟩⟩
      | false =>
       rw [if_neg (fun h_ => by have:=HBB.out.2 h_;cases this)] at H;clear HBB;have e_:=Option.some.inj H;subst e_;clear H;go_wp2
       go_loopg [15] k1 (fun kq v15 w' => ∃ (z : Int) (T0 : List (List Int)),v15 = .int .i64 z∧As (il2 s.l0 s.l1 s.tr s.en s.de s.ac s.x s.sh (wrap64 (s.en - s.x)) a B0 kq T0 z = some T2)∧As (kq ≤ k1)∧As (IZ s w w' gp gx gr gL cL gB cB n T0 B0))
       case atStart => exact ⟨0,T,by first|rfl|(simp;done)|(simp [*];done),AT,⟨Nat.le_refl _⟩,⟨by (with_reducible repeat (first|refine IZ.drewN ?_ _|refine IZ.drew ?_|refine IZ.alloc ?_ _));exact HS.out⟩⟩
       case round =>
        clear AT HS HK2;obtain ⟨z,T0,rfl,HA,HK2,HS⟩:=hrel
        cases gk with
        | zero => exact absurd HA.out (by simp [il2])
        | succ k2 =>
        have H:=HA.out;clear HA;simp only [il2] at H
        by_cases c4 : z ≤ 60
        case pos =>
         rw [if_pos c4] at H;have c4b0 : decide (z ≤ 60) = true:=decide_eq_true c4;clear c4;replace H:=Option.bind_eq_some_iff.mp H;obtain ⟨b,Ab0,H⟩:=H;have Ab:=Am Ab0;clear Ab0;replace H:=Option.bind_eq_some_iff.mp H;obtain ⟨best1,A30,H⟩:=H;have A3:=Am A30;clear A30;rw [HS.out.tn] at H
         by_cases c6 : 0 ≤ a∧a < (n : Int)∧0 ≤ z∧z < 61
         case neg => rw [if_neg c6] at H;cases H
         rw [if_pos c6] at H;have C6:=Am c6;have pa : (0 ≤ a) = True:=eq_true (c6.1);have qa : (a < (n : Int)) = True:=eq_true (c6.2.1);have pz : (0 ≤ z) = True:=eq_true (c6.2.2.1);have qz : (z < 61) = True:=eq_true (c6.2.2.2);clear c6;have H'':=Am H;clear H
         go_upto_region 18 with fail
         go_cut [86] (fun v86 wc => ∃ (bz : Bool),v86 = .bool bz∧As (IffB bz (z = 0∧wrap64 ((wrap64 (s.en - s.x)) - a) ≤ s.sh))∧As (IZ s w wc gp gx gr gL cL gB cB n T0 B0))
         case first =>
          by_cases c7 : z = 0
          case pos =>
           have C7:=Am c7;have c7b0 : (z == 0) = true:=beq_iff_eq.mpr c7;clear c7
           by_cases c8 : wrap64 ((wrap64 (s.en - s.x)) - a) ≤ s.sh
           case pos =>
            have C8:=Am c8;have c8b0 : decide (wrap64 ((wrap64 (s.en - s.x)) - a) ≤ s.sh) = true:=decide_eq_true c8;clear c8;go_wp2
            go_meet
            case rel => exact ⟨true,by first|rfl|(simp;done)|(simp [*];done),⟨⟨fun _ => ⟨C7.out,C8.out⟩,fun _ => rfl⟩⟩,⟨by (with_reducible repeat (first|refine IZ.drewN ?_ _|refine IZ.drew ?_|refine IZ.alloc ?_ _));exact HS.out⟩⟩
           case neg =>
            have C8:=Am c8;have c8b0 : decide (wrap64 ((wrap64 (s.en - s.x)) - a) ≤ s.sh) = false:=decide_eq_false c8;clear c8;go_wp2
            go_meet
            case rel => exact ⟨false,by first|rfl|(simp;done)|(simp [*];done),⟨⟨fun h_ => (by cases h_),fun h_ => by have:=C8.out;omega⟩⟩,⟨by (with_reducible repeat (first|refine IZ.drewN ?_ _|refine IZ.drew ?_|refine IZ.alloc ?_ _));exact HS.out⟩⟩
          case neg =>
           have C7:=Am c7;have c7b0 : (z == 0) = false:=beq_eq_false_iff_ne.mpr c7;clear c7;go_wp2
           go_meet
           case rel => exact ⟨false,by first|rfl|(simp;done)|(simp [*];done),⟨⟨fun h_ => (by cases h_),fun h_ => by have:=C7.out;omega⟩⟩,⟨by (with_reducible repeat (first|refine IZ.drewN ?_ _|refine IZ.drew ?_|refine IZ.alloc ?_ _));exact HS.out⟩⟩
         case rest =>
          clear HS c4b0;obtain ⟨bz,rfl,HBB,HS⟩:=hcut
          go_upto_if 86 with fail
          go_cut [16] (fun v16 wc => v16 = .int .i64 (bsI (wrap64 (s.en - s.x)) a s.sh z)∧As (IZ s w wc gp gx gr gL cL gB cB n T0 B0))
          case first =>
           cases bz with
           | true =>
            go_wp2
            go_meet
            case rel => exact ⟨congrArg (Value.int .i64) (by rw [bsI_true HBB.out]),⟨by (with_reducible repeat (first|refine IZ.drewN ?_ _|refine IZ.drew ?_|refine IZ.alloc ?_ _));exact HS.out⟩⟩
           | false =>
            go_wp2
            go_meet
            case rel => exact ⟨congrArg (Value.int .i64) (by rw [bsI_false HBB.out]),⟨by (with_reducible repeat (first|refine IZ.drewN ?_ _|refine IZ.drew ?_|refine IZ.alloc ?_ _));exact HS.out⟩⟩
          case rest =>
           clear HS HBB;obtain ⟨rfl,HS⟩:=hcut
           obtain ⟨lo,hlo⟩ : ∃ j : Int,loI b z = j:=⟨_,rfl⟩
           have HLO:=Am hlo;have n0_:=Am (show il3 s.ac T0 B0 a z k2 lo (bsI (wrap64 (s.en - s.x)) a s.sh z) = some best1 from by rw [← hlo];exact A3.out);clear A3 hlo;have A3:=n0_;clear n0_
           go_wp2_with (first|(go_at_call 42;(with_reducible refine (impl_low.calls k2 s gp gx a z b lo _ (IZ.pb (by (with_reducible repeat (first|refine IZ.drewN ?_ _|refine IZ.drew ?_|refine IZ.alloc ?_ _));exact HS.out)) (IZ.xb (by (with_reducible repeat (first|refine IZ.drewN ?_ _|refine IZ.drew ?_|refine IZ.alloc ?_ _));exact HS.out)) (IZ.grd (by (with_reducible repeat (first|refine IZ.drewN ?_ _|refine IZ.drew ?_|refine IZ.alloc ?_ _));exact HS.out)) Ab.out HLO.out).mono ?_);rintro e w10 ⟨rfl,hb⟩;have n0_:=Am (IZ.below (by (with_reducible repeat (first|refine IZ.drewN ?_ _|refine IZ.drew ?_|refine IZ.alloc ?_ _));exact HS.out) hb);clear HS;have HS:=n0_;clear n0_ hb))
           go_loopg [16,17] k2 (fun kq v16 v17 w' => ∃ (best q : Int),v16 = .int .i64 best∧v17 = .int .i64 q∧As (il3 s.ac T0 B0 a z kq q best = some best1)∧As (kq ≤ k2)∧As (IZ s w w' gp gx gr gL cL gB cB n T0 B0))
           case atStart => exact ⟨_,lo,by first|rfl|(simp;done)|(simp [*];done),by first|rfl|(simp;done)|(simp [*];done),A3,⟨Nat.le_refl _⟩,⟨by (with_reducible repeat (first|refine IZ.drewN ?_ _|refine IZ.drew ?_|refine IZ.alloc ?_ _));exact HS.out⟩⟩
           case round =>
            clear A3 HS;obtain ⟨best,q,rfl,rfl,HA,HK3,HS⟩:=hrel
            cases gk with
            | zero => exact absurd HA.out (by simp [il3])
            | succ k3 =>
            have H:=HA.out;clear HA;simp only [il3] at H;rw [HS.out.tn,HS.out.bn] at H
            obtain ⟨hi,hhi⟩ : ∃ j : Int,hiI s.ac z = j:=⟨_,rfl⟩
            rw [hhi] at H;have HHI:=Am hhi;have hhi_ : (if wrap64 (z + s.ac) < 60 then wrap64 (z + s.ac) else 60) = hi:=hhi;clear hhi
            by_cases c7 : q ≤ hi
            case pos =>
             rw [if_pos c7] at H;have c7b0 : decide (q ≤ hi) = true:=decide_eq_true c7;clear c7
             by_cases c8 : q = 0
             case pos =>
              rw [if_pos c8] at H;have c8b0 : (q == 0) = true:=beq_iff_eq.mpr c8;have c8b1 : decide (q > 0) = false:=decide_eq_false (by omega);clear c8
              by_cases c9 : z > 0
              case pos =>
               rw [if_pos c9] at H;have c9b0 : decide (z > 0) = true:=decide_eq_true c9;clear c9
               by_cases c10 : 0 ≤ a∧a < (n : Int)
               case neg => rw [if_neg c10] at H;cases H
               rw [if_pos c10] at H;clear c10;obtain ⟨hx0_0,hf0_0⟩:=IZ.atT HS.out a 0 C6.out.1 C6.out.2.1 (by omega) (by omega);have hx0_1 : wr.cell? ⟨gL,a.toNat * 61,none⟩ = some (.int .i64 (rd2 T0 a 0)):=hx0_0
               obtain ⟨m,hm⟩ : ∃ j : Int,mnI best (wrap64 (rd2 T0 a 0 + 1)) = j:=⟨_,rfl⟩
               rw [hm] at H;have hm_ : (if wrap64 (rd2 T0 a 0 + 1) < best then wrap64 (rd2 T0 a 0 + 1) else best) = m:=hm;clear hm;have H3:=Am H;clear H;go_wp2
               go_roundg k3
               case measure => omega
               case rel => exact ⟨m,wrap64 (q + 1),by first|rfl|(simp;done)|(simp [*];done),by first|rfl|(simp;done)|(simp [*];done),H3,⟨by have:=HK3.out;omega⟩,⟨by (with_reducible repeat (first|refine IZ.drewN ?_ _|refine IZ.drew ?_|refine IZ.alloc ?_ _));exact HS.out⟩⟩
              case neg =>
               rw [if_neg c9] at H;have c9b0 : decide (z > 0) = false:=decide_eq_false c9;clear c9;have H3:=Am H;clear H;go_wp2
               go_roundg k3
               case measure => omega
               case rel => exact ⟨best,wrap64 (q + 1),by first|rfl|(simp;done)|(simp [*];done),by first|rfl|(simp;done)|(simp [*];done),H3,⟨by have:=HK3.out;omega⟩,⟨by (with_reducible repeat (first|refine IZ.drewN ?_ _|refine IZ.drew ?_|refine IZ.alloc ?_ _));exact HS.out⟩⟩
             case neg =>
              rw [if_neg c8] at H;have c8b0 : (q == 0) = false:=beq_eq_false_iff_ne.mpr c8;clear c8
              by_cases c9 : q > 0
              case pos =>
               rw [if_pos c9] at H;have C9:=Am c9;have c9b0 : decide (q > 0) = true:=decide_eq_true c9;clear c9
               by_cases c10 : 0 ≤ a∧a < (n : Int)∧q < 61
               case neg => rw [if_neg c10] at H;cases H
               rw [if_pos c10] at H;have C10:=Am c10.2.2;have pq : (0 ≤ q) = True:=eq_true (by have:=C9.out;omega);have qq : (q < 61) = True:=eq_true (c10.2.2);clear c10;obtain ⟨hx1_0,hf1_0⟩:=IZ.atB HS.out a q C6.out.1 C6.out.2.1 (by have:=C9.out;omega) C10.out
               by_cases c11 : rdB B0 a q = true
               case pos =>
                rw [if_pos c11] at H;rw [c11] at hx1_0;clear c11
                obtain ⟨e_,he_⟩ : ∃ j : Int,wrap64 (a + q) = j:=⟨_,rfl⟩
                rw [he_] at H
                by_cases c12 : 0 ≤ e_∧e_ < (n : Int)
                case neg => rw [if_neg c12] at H;cases H
                rw [if_pos c12] at H;have pe : (0 ≤ e_) = True:=eq_true (c12.1);have qe : (e_ < (n : Int)) = True:=eq_true (c12.2);obtain ⟨hx2_0,hf2_0⟩:=IZ.atT HS.out e_ q c12.1 c12.2 (by have:=C9.out;omega) C10.out;clear c12
                obtain ⟨m,hm⟩ : ∃ j : Int,mnI best (wrap64 (rd2 T0 e_ q + 1)) = j:=⟨_,rfl⟩
                rw [hm] at H;have hm_ : (if wrap64 (rd2 T0 e_ q + 1) < best then wrap64 (rd2 T0 e_ q + 1) else best) = m:=hm;clear hm;have H3:=Am H;clear H;go_wp2
                go_roundg k3
                case measure => omega
                case rel => exact ⟨m,wrap64 (q + 1),by first|rfl|(simp;done)|(simp [*];done),by first|rfl|(simp;done)|(simp [*];done),H3,⟨by have:=HK3.out;omega⟩,⟨by (with_reducible repeat (first|refine IZ.drewN ?_ _|refine IZ.drew ?_|refine IZ.alloc ?_ _));exact HS.out⟩⟩
               case neg =>
                rw [if_neg c11] at H;rw [Bool.eq_false_iff.mpr c11] at hx1_0;clear c11;have H3:=Am H;clear H;go_wp2
                go_roundg k3
                case measure => omega
                case rel => exact ⟨best,wrap64 (q + 1),by first|rfl|(simp;done)|(simp [*];done),by first|rfl|(simp;done)|(simp [*];done),H3,⟨by have:=HK3.out;omega⟩,⟨by (with_reducible repeat (first|refine IZ.drewN ?_ _|refine IZ.drew ?_|refine IZ.alloc ?_ _));exact HS.out⟩⟩
              case neg =>
               rw [if_neg c9] at H;have c9b0 : decide (q > 0) = false:=decide_eq_false c9;clear c9;have H3:=Am H;clear H;go_wp2
               go_roundg k3
               case measure => omega
               case rel => exact ⟨best,wrap64 (q + 1),by first|rfl|(simp;done)|(simp [*];done),by first|rfl|(simp;done)|(simp [*];done),H3,⟨by have:=HK3.out;omega⟩,⟨by (with_reducible repeat (first|refine IZ.drewN ?_ _|refine IZ.drew ?_|refine IZ.alloc ?_ _));exact HS.out⟩⟩
            case neg =>
             rw [if_neg c7] at H;have c7b0 : decide (q ≤ hi) = false:=decide_eq_false c7;clear c7;have e1_:=Option.some.inj H;subst e1_;clear H;obtain ⟨hx5_0,hf5_0⟩:=IZ.atT HS.out a z C6.out.1 C6.out.2.1 C6.out.2.2.1 C6.out.2.2.2
             go_wp2_with (first|((with_reducible refine gate_store (t:=3) (p:=141) rfl ?_);refine store_event (t:=3) (p:=141) (v:=?vo) (w1:=(wr.setCell ⟨gL,a.toNat * 61 + z.toNat,none⟩ (.int .i64 best))) ?hg ?ho ?hn ?hr ?_;(case ho => rfl);(case hg => rfl);(case hn => rfl);(case hr => first|(go_simp;done)|(go_simp;rfl));intro w11 hw;have n0_:=Am (by rw [hw];exact IZ.setT (by (with_reducible repeat (first|refine IZ.drewN ?_ _|refine IZ.drew ?_|refine IZ.alloc ?_ _));exact HS.out) a z best C6.out.1 C6.out.2.1 C6.out.2.2.1 C6.out.2.2.2 : IZ s w w11 gp gx gr gL cL gB cB n (up2 T0 a z best) B0);clear HS;have HS:=n0_;clear n0_ hw))
             go_roundg k2
             case measure => omega
             case rel => exact ⟨wrap64 (z + 1),up2 T0 a z best,by first|rfl|(simp;done)|(simp [*];done),H'',⟨by have:=HK2.out;omega⟩,⟨by (with_reducible repeat (first|refine IZ.drewN ?_ _|refine IZ.drew ?_|refine IZ.alloc ?_ _));exact HS.out⟩⟩
        case neg =>
         rw [if_neg c4] at H;have c4b0 : decide (z ≤ 60) = false:=decide_eq_false c4;clear c4;have e1_:=Option.some.inj H;subst e1_;clear H;go_wp2
         go_roundg k1
         case measure => omega
         case rel => exact ⟨wrap64 (a - 1),T0,B0,by first|rfl|(simp;done)|(simp [*];done),H',⟨by have:=HK1.out;omega⟩,⟨by (with_reducible repeat (first|refine IZ.drewN ?_ _|refine IZ.drew ?_|refine IZ.alloc ?_ _));exact HS.out⟩⟩
   case neg =>
    rw [if_neg c3] at H;have c3b0 : decide (a ≥ 0) = false:=decide_eq_false c3;clear c3;simp only [Option.some.injEq,Prod.mk.injEq] at H;obtain ⟨e1_,e2_⟩:=H;subst e1_ e2_;have H:=H0.out;clear H0
    try dsimp only at H
    obtain ⟨k0,hk0⟩ : ∃ j : Int,rd2 T 0 0 = j:=⟨_,rfl⟩
    rw [hk0] at H
    have hx0_0 : wr.cell? ⟨gL,0,none⟩ = some (.int .i64 k0):=by rw [← hk0];exact (IZ.atT HS.out 0 0 (by omega) (by have:=C1.out;omega) (by omega) (by omega)).1
    clear hk0;have q5 : ((0 : Int) < (n : Int)) = True:=eq_true (by have:=C1.out;omega);have qi5 : (0 < n) = True:=eq_true C1.out
    by_cases c20 : k0 > 2000
    case pos =>
     rw [if_pos c20] at H;have c20b0 : decide (k0 > 2000) = true:=decide_eq_true c20;clear c20;simp only [Option.some.injEq,Prod.mk.injEq] at H;obtain ⟨rfl,rfl,rfl⟩:=H
     go_wp2_with (first|((with_reducible refine gate_dst (N:=18) rfl ?_);refine box_event ?hg (N:=18) ?hd (cs:=#[.bool false,.int .i64 0,.slice none 0 0]) (t:=41) ?hr ?_;(case hd => rfl);(case hg => rfl);(case hr => first|(go_simp;done)|(go_simp;rfl));intro go hg w9 hbox hb;have NO:=Am (show w.heap.size ≤ go from by rw [hg];exact below_size (by repeat (first|(with_reducible first|exact HS.out.bw|apply bA|apply bN|apply bD)|exact HS.out.bw)));have NN:=Am (show go ≠ gp∧go ≠ gx∧go ≠ gr∧go ≠ gL∧go ≠ gB from (by rw [hg];exact ⟨Nat.ne_of_gt (blk_lt (show IZ s w _ gp gx gr gL cL gB cB n T B from by (with_reducible repeat (first|refine IZ.drewN ?_ _|refine IZ.drew ?_|refine IZ.alloc ?_ _));exact HS.out).pb),Nat.ne_of_gt (blk_lt (show IZ s w _ gp gx gr gL cL gB cB n T B from by (with_reducible repeat (first|refine IZ.drewN ?_ _|refine IZ.drew ?_|refine IZ.alloc ?_ _));exact HS.out).xb),Nat.ne_of_gt (blk_lt (show IZ s w _ gp gx gr gL cL gB cB n T B from by (with_reducible repeat (first|refine IZ.drewN ?_ _|refine IZ.drew ?_|refine IZ.alloc ?_ _));exact HS.out).rb),Nat.ne_of_gt (Kd.R_lt (show IZ s w _ gp gx gr gL cL gB cB n T B from by (with_reducible repeat (first|refine IZ.drewN ?_ _|refine IZ.drew ?_|refine IZ.alloc ?_ _));exact HS.out).tl gL (by simp [Value.ownBlock])),Nat.ne_of_gt (Kd.R_lt (show IZ s w _ gp gx gr gL cL gB cB n T B from by (with_reducible repeat (first|refine IZ.drewN ?_ _|refine IZ.drew ?_|refine IZ.alloc ?_ _));exact HS.out).bl gB (by simp [Value.ownBlock]))⟩));have n0_:=Am (IZ.below (by (with_reducible repeat (first|refine IZ.drewN ?_ _|refine IZ.drew ?_|refine IZ.alloc ?_ _));exact HS.out) hb);have BO:=Am hbox;clear HS;have HS:=n0_;clear n0_ hb hbox hg;have hcro0 : w9.cell? ⟨go,0,none⟩ = some (.bool false):=(kC BO.out 0).trans rfl;have hcro1 : w9.cell? ⟨go,1,none⟩ = some (.int .i64 0):=(kC BO.out 1).trans rfl;have hcro2 : w9.cell? ⟨go,2,none⟩ = some (.slice none 0 0):=(kC BO.out 2).trans rfl;have hfro0:=kF BO.out 0;have hfro1:=kF BO.out 1;have hfro2:=kF BO.out 2;have hcqr0 : w9.cell? ⟨gr,0,none⟩ = some (.bool false):=(kC HS.out.rb 0).trans rfl;have hcqr1 : w9.cell? ⟨gr,1,none⟩ = some (.int .i64 0):=(kC HS.out.rb 1).trans rfl;have hcqr2 : w9.cell? ⟨gr,2,none⟩ = some (.slice none 0 0):=(kC HS.out.rb 2).trans rfl;have hfqr0:=kF HS.out.rb 0;have hfqr1:=kF HS.out.rb 1;have hfqr2:=kF HS.out.rb 2;have hn1_:=NN.out.2.2.1;have hn2_ : gr ≠ go:=fun e_ => NN.out.2.2.1 e_.symm))
     refine bodyPost_ret (results_cell_row rfl _ _ gr 41 #[.bool false,.int .i64 0,.slice none 0 0] (0,0) _ rfl (by (with_reducible repeat (first|refine kN ?_ _|refine kD ?_|refine kA ?_ _));refine blk_put (cs:=#[.bool false,.int .i64 0,.slice none 0 0]) ?_ 2 _ rfl;(with_reducible repeat (first|refine kN ?_ _|refine kD ?_|refine kA ?_ _));refine blk_put (cs:=#[.bool false,.int .i64 0,.slice none 0 0]) ?_ 1 _ rfl;(with_reducible repeat (first|refine kN ?_ _|refine kD ?_|refine kA ?_ _));refine blk_put (cs:=#[.bool false,.int .i64 0,.slice none 0 0]) ?_ 0 _ rfl;(with_reducible repeat (first|refine kN ?_ _|refine kD ?_|refine kA ?_ _));(repeat refine blk_far ?_ hn2_ _);exact HS.out.rb) Try.underlying41 rfl (by kernel_rfl)) rfl ?_;exact ⟨.slice none 0 0,by rfl,Kd.R_nil _ _ _ _ _,by repeat (first|(with_reducible first|exact HS.out.bw|apply bA|apply bN|apply bD|refine bS ?_ HS.out.nr|refine bS ?_ NO.out)|exact HS.out.bw)⟩
    case neg =>
     rw [if_neg c20] at H;have c20b0 : decide (k0 > 2000) = false:=decide_eq_false c20;clear c20;replace H:=Option.bind_eq_some_iff.mp H;obtain ⟨o3,AO0,H⟩:=H;have AO:=Am AO0;clear AO0;simp only [Option.some.injEq,Prod.mk.injEq] at H;obtain ⟨rfl,rfl,rfl⟩:=H
     go_wp2_with (first|((with_reducible refine gate_dst (N:=18) rfl ?_);refine box_event ?hg (N:=18) ?hd (cs:=#[.bool false,.int .i64 0,.slice none 0 0]) (t:=41) ?hr ?_;(case hd => rfl);(case hg => rfl);(case hr => first|(go_simp;done)|(go_simp;rfl));intro go hg w9 hbox hb;have NO:=Am (show w.heap.size ≤ go from by rw [hg];exact below_size (by repeat (first|(with_reducible first|exact HS.out.bw|apply bA|apply bN|apply bD)|exact HS.out.bw)));have NN:=Am (show go ≠ gp∧go ≠ gx∧go ≠ gr∧go ≠ gL∧go ≠ gB from (by rw [hg];exact ⟨Nat.ne_of_gt (blk_lt (show IZ s w _ gp gx gr gL cL gB cB n T B from by (with_reducible repeat (first|refine IZ.drewN ?_ _|refine IZ.drew ?_|refine IZ.alloc ?_ _));exact HS.out).pb),Nat.ne_of_gt (blk_lt (show IZ s w _ gp gx gr gL cL gB cB n T B from by (with_reducible repeat (first|refine IZ.drewN ?_ _|refine IZ.drew ?_|refine IZ.alloc ?_ _));exact HS.out).xb),Nat.ne_of_gt (blk_lt (show IZ s w _ gp gx gr gL cL gB cB n T B from by (with_reducible repeat (first|refine IZ.drewN ?_ _|refine IZ.drew ?_|refine IZ.alloc ?_ _));exact HS.out).rb),Nat.ne_of_gt (Kd.R_lt (show IZ s w _ gp gx gr gL cL gB cB n T B from by (with_reducible repeat (first|refine IZ.drewN ?_ _|refine IZ.drew ?_|refine IZ.alloc ?_ _));exact HS.out).tl gL (by simp [Value.ownBlock])),Nat.ne_of_gt (Kd.R_lt (show IZ s w _ gp gx gr gL cL gB cB n T B from by (with_reducible repeat (first|refine IZ.drewN ?_ _|refine IZ.drew ?_|refine IZ.alloc ?_ _));exact HS.out).bl gB (by simp [Value.ownBlock]))⟩));have n0_:=Am (IZ.below (by (with_reducible repeat (first|refine IZ.drewN ?_ _|refine IZ.drew ?_|refine IZ.alloc ?_ _));exact HS.out) hb);have BO:=Am hbox;clear HS;have HS:=n0_;clear n0_ hb hbox hg;have hcro0 : w9.cell? ⟨go,0,none⟩ = some (.bool false):=(kC BO.out 0).trans rfl;have hcro1 : w9.cell? ⟨go,1,none⟩ = some (.int .i64 0):=(kC BO.out 1).trans rfl;have hcro2 : w9.cell? ⟨go,2,none⟩ = some (.slice none 0 0):=(kC BO.out 2).trans rfl;have hfro0:=kF BO.out 0;have hfro1:=kF BO.out 1;have hfro2:=kF BO.out 2;have hcqr0 : w9.cell? ⟨gr,0,none⟩ = some (.bool false):=(kC HS.out.rb 0).trans rfl;have hcqr1 : w9.cell? ⟨gr,1,none⟩ = some (.int .i64 0):=(kC HS.out.rb 1).trans rfl;have hcqr2 : w9.cell? ⟨gr,2,none⟩ = some (.slice none 0 0):=(kC HS.out.rb 2).trans rfl;have hfqr0:=kF HS.out.rb 0;have hfqr1:=kF HS.out.rb 1;have hfqr2:=kF HS.out.rb 2;have hn1_:=NN.out.2.2.1;have hn2_ : gr ≠ go:=fun e_ => NN.out.2.2.1 e_.symm))
     go_loopg [19,20,21] k (fun kq v19 v20 v21 w' => ∃ (a v tk : Int) (vo : Value) (ou : List Int),v19 = .int .i64 a∧v20 = .int .i64 v∧v21 = .int .i64 tk∧As (il4 s.l0 s.l1 s.tr s.en s.de s.ac s.x T B kq a v tk ou = some o3)∧As (kq ≤ k)∧As (IE s w w' gp gx gr gL cL gB cB n T B go k0 vo vo ou))
     case atStart => exact ⟨0,0,_,.slice none 0 0,[],by first|rfl|(simp;done)|(simp [*];done),by first|rfl|(simp;done)|(simp [*];done),by first|rfl|(simp;done)|(simp [*];done),AO,⟨Nat.le_refl _⟩,⟨by exact IE.start (IZ.set (IZ.set (IZ.set (by (with_reducible repeat (first|refine IZ.drewN ?_ _|refine IZ.drew ?_|refine IZ.alloc ?_ _));exact HS.out) NO.out NN.out _ _) NO.out NN.out _ _) NO.out NN.out _ _) (by (with_reducible repeat (first|refine kN ?_ _|refine kD ?_|refine kA ?_ _));refine blk_put (cs:=#[.bool true,.int .i64 k0,.slice none 0 0]) ?_ 2 _ rfl;refine blk_put (cs:=#[.bool true,.int .i64 0,.slice none 0 0]) ?_ 1 _ rfl;refine blk_put (cs:=#[.bool false,.int .i64 0,.slice none 0 0]) ?_ 0 _ rfl;exact BO.out) NO.out NN.out⟩⟩
     case round =>
      clear AO HS BO c20b0 hx0_0 q5 qi5 hcro0 hfro0 hcqr0 hfqr0 hcro1 hfro1 hcqr1 hfqr1 hcro2 hfro2 hcqr2 hfqr2;obtain ⟨a,v,tk,vo,ou,rfl,rfl,rfl,HA,HK1,HS⟩:=hrel
      cases gk with
      | zero => exact absurd HA.out (by simp [il4])
      | succ k1 =>
      have H:=HA.out;clear HA;simp only [il4] at H
      by_cases c21 : tk > 0
      case pos =>
       rw [if_pos c21] at H;have c21b0 : decide (tk > 0) = true:=decide_eq_true c21;clear c21;replace H:=Option.bind_eq_some_iff.mp H;obtain ⟨⟨a2,v2⟩,A50,H⟩:=H;have A5:=Am A50;clear A50
       by_cases c22 : ou.length ≤ 1000000
       case neg => rw [if_neg c22] at H;cases H
       rw [if_pos c22] at H;have C22:=Am c22;clear c22;have H':=Am H;clear H
       obtain ⟨hi,hhi⟩ : ∃ j : Int,hiI s.ac v = j:=⟨_,rfl⟩
       have n0_:=Am (show il5 s.l0 s.l1 s.tr s.en s.de s.x T B a v tk k1 hi = some (a2,v2) from by rw [← hhi];exact A5.out);clear A5;have A5:=n0_;clear n0_;have hhi_ : (if wrap64 (v + s.ac) < 60 then wrap64 (v + s.ac) else 60) = hi:=hhi;clear hhi;go_wp2
       go_loopg [19,20,22] k1 (fun kq v19 v20 v22 w' => ∃ (q : Int),v19 = .int .i64 a∧v20 = .int .i64 v∧v22 = .int .i64 q∧As (il5 s.l0 s.l1 s.tr s.en s.de s.x T B a v tk kq q = some (a2,v2))∧As (kq ≤ k1)∧As (IE s w w' gp gx gr gL cL gB cB n T B go k0 vo vo ou))
       case atStart => exact ⟨hi,by first|rfl|(simp;done)|(simp [*];done),by first|rfl|(simp;done)|(simp [*];done),by first|rfl|(simp;done)|(simp [*];done),A5,⟨Nat.le_refl _⟩,⟨by (with_reducible repeat (first|refine IE.drewN ?_ _|refine IE.drew ?_|refine IE.alloc ?_ _));exact HS.out⟩⟩
       case round =>
        clear A5 HS hhi_ c21b0;obtain ⟨q,rfl,rfl,rfl,HA,HK2,HS⟩:=hrel
        cases gk with
        | zero => exact absurd HA.out (by simp [il5])
        | succ k2 =>
        have H:=HA.out;clear HA;simp only [il5] at H;replace H:=Option.bind_eq_some_iff.mp H;obtain ⟨b,Ab0,H⟩:=H;have Ab:=Am Ab0;clear Ab0;rw [HS.out.sz.tn,HS.out.sz.bn] at H
        obtain ⟨lo,hlo⟩ : ∃ j : Int,loI b v = j:=⟨_,rfl⟩
        rw [hlo] at H;have HLO:=Am hlo;clear hlo
        by_cases c23 : q ≥ lo
        case pos =>
         rw [if_pos c23] at H;have c23b0 : decide (q ≥ lo) = true:=decide_eq_true c23;clear c23
         by_cases c24 : q = 0
         case pos =>
          rw [if_pos c24] at H;have c24b0 : (q == 0) = true:=beq_iff_eq.mpr c24;have Q61:=Am (show 0 ≤ q∧q < 61 by omega);clear c24;have pq : (0 ≤ q) = True:=eq_true (Q61.out.1);have qq : (q < 61) = True:=eq_true (Q61.out.2)
          obtain ⟨e_,he_⟩ : ∃ j : Int,wrap64 (a + q) = j:=⟨_,rfl⟩
          rw [he_] at H
          by_cases c12 : 0 ≤ e_∧e_ < (n : Int)
          case neg => rw [if_neg c12] at H;cases H
          rw [if_pos c12] at H;have E12:=Am c12;have pe : (0 ≤ e_) = True:=eq_true (c12.1);have qe : (e_ < (n : Int)) = True:=eq_true (c12.2);clear c12
          by_cases c25 : rd2 T e_ q = wrap64 (tk - 1)
          case pos =>
           rw [if_pos c25] at H;have c25b0 : (rd2 T e_ q == wrap64 (tk - 1)) = true:=beq_iff_eq.mpr c25;clear c25;simp only [Option.some.injEq,Prod.mk.injEq] at H;obtain ⟨e1_,e2_⟩:=H;subst e1_ e2_;obtain ⟨Ao,co,eo⟩:=Kd.R_slice HS.out.ol;subst eo
           go_wp2_with (first|(go_at_call 42;(with_reducible refine (impl_low.calls k2 s gp gx a v b lo _ (IZ.pb (IE.sz (by (with_reducible repeat (first|refine IE.drewN ?_ _|refine IE.drew ?_|refine IE.alloc ?_ _));exact HS.out))) (IZ.xb (IE.sz (by (with_reducible repeat (first|refine IE.drewN ?_ _|refine IE.drew ?_|refine IE.alloc ?_ _));exact HS.out))) (IZ.grd (IE.sz (by (with_reducible repeat (first|refine IE.drewN ?_ _|refine IE.drew ?_|refine IE.alloc ?_ _));exact HS.out))) Ab.out HLO.out).mono ?_);rintro e w14 ⟨rfl,hb⟩;have n0_:=Am (IE.below (by (with_reducible repeat (first|refine IE.drewN ?_ _|refine IE.drew ?_|refine IE.alloc ?_ _));exact HS.out) hb);clear HS;have HS:=n0_;clear n0_ hb;obtain ⟨hx2_0,hf2_0⟩:=IZ.atT HS.out.sz e_ q E12.out.1 E12.out.2 Q61.out.1 Q61.out.2;have hcso0 : w14.cell? ⟨go,0,none⟩ = some (.bool true):=(kC HS.out.ob 0).trans rfl;have hcso1 : w14.cell? ⟨go,1,none⟩ = some (.int .i64 k0):=(kC HS.out.ob 1).trans rfl;have hcso2 : w14.cell? ⟨go,2,none⟩ = some (.slice Ao ou.length co):=(kC HS.out.ob 2).trans rfl;have hfso0:=kF HS.out.ob 0;have hfso1:=kF HS.out.ob 1;have hfso2:=kF HS.out.ob 2)|((with_reducible refine gate_builtin (b:=.append) (xs:=#[.tmp 197,.tmp 199]) rfl ?_);at_builtin;refine Kd.R_append (Kd.int .i64) (w0:=?w0_1) w.heap.size rfl (.tmp 197) (.tmp 199) 27 3 (.int .i64 0) 8 rfl Try.underlying27 finfo3 rfl (by decide) (by omega) (.slice Ao ou.length co) ou q [.int .i64 q] (fun k => k ≠ gp∧k ≠ gx∧k ≠ gr∧k ≠ gL∧k ≠ gB∧k ≠ go) (fun _ => False) rfl rfl ?aP (fun _ hk => hk.elim) ?aF ?aO ?aB ?aS ?aL ?_;(case aP => exact rfl);(case aB => exact (Below.refl _ _));(case aF => exact IE.fresh (by (with_reducible repeat (first|refine IE.drewN ?_ _|refine IE.drew ?_|refine IE.alloc ?_ _));exact HS.out));(case aO => exact IE.ol (by (with_reducible repeat (first|refine IE.drewN ?_ _|refine IE.drew ?_|refine IE.alloc ?_ _));exact HS.out));(case aS => exact IE.hw (by (with_reducible repeat (first|refine IE.drewN ?_ _|refine IE.drew ?_|refine IE.alloc ?_ _));exact HS.out));(case aL => have:=C22.out;omega);intro v1 w13 ho hb hg hat;obtain ⟨A2,c2_,e2_⟩:=Kd.R_slice ho;rw [show (ou ++ [q]).length = ou.length + 1 from by simp] at e2_;subst e2_;have n0_:=Am (IE.app (by (with_reducible repeat (first|refine IE.drewN ?_ _|refine IE.drew ?_|refine IE.alloc ?_ _));exact HS.out) ho hb hg);clear HS;have HS:=n0_;clear n0_ ho hb hg hat;have hcto0 : w13.cell? ⟨go,0,none⟩ = some (.bool true):=(kC HS.out.ob 0).trans rfl;have hcto1 : w13.cell? ⟨go,1,none⟩ = some (.int .i64 k0):=(kC HS.out.ob 1).trans rfl;have hcto2 : w13.cell? ⟨go,2,none⟩ = some (.slice Ao ou.length co):=(kC HS.out.ob 2).trans rfl;have hfto0:=kF HS.out.ob 0;have hfto1:=kF HS.out.ob 1;have hfto2:=kF HS.out.ob 2))
           go_roundg k1
           case measure => omega
           case rel => exact ⟨e_,q,wrap64 (tk - 1),.slice A2 (ou.length + 1) c2_,ou ++ [q],by first|rfl|(simp;done)|(simp [*];done),by first|rfl|(simp;done)|(simp [*];done),by first|rfl|(simp;done)|(simp [*];done),H',⟨by have:=HK1.out;omega⟩,⟨by (with_reducible repeat (first|refine IE.drewN ?_ _|refine IE.drew ?_|refine IE.alloc ?_ _));exact IE.put HS.out⟩⟩
          case neg =>
           rw [if_neg c25] at H;have c25b0 : (rd2 T e_ q == wrap64 (tk - 1)) = false:=beq_eq_false_iff_ne.mpr c25;clear c25;have H3:=Am H;clear H
           go_wp2_with (first|(go_at_call 42;(with_reducible refine (impl_low.calls k2 s gp gx a v b lo _ (IZ.pb (IE.sz (by (with_reducible repeat (first|refine IE.drewN ?_ _|refine IE.drew ?_|refine IE.alloc ?_ _));exact HS.out))) (IZ.xb (IE.sz (by (with_reducible repeat (first|refine IE.drewN ?_ _|refine IE.drew ?_|refine IE.alloc ?_ _));exact HS.out))) (IZ.grd (IE.sz (by (with_reducible repeat (first|refine IE.drewN ?_ _|refine IE.drew ?_|refine IE.alloc ?_ _));exact HS.out))) Ab.out HLO.out).mono ?_);rintro e w14 ⟨rfl,hb⟩;have n0_:=Am (IE.below (by (with_reducible repeat (first|refine IE.drewN ?_ _|refine IE.drew ?_|refine IE.alloc ?_ _));exact HS.out) hb);clear HS;have HS:=n0_;clear n0_ hb;obtain ⟨hx2_0,hf2_0⟩:=IZ.atT HS.out.sz e_ q E12.out.1 E12.out.2 Q61.out.1 Q61.out.2))
           go_roundg k2
           case measure => omega
           case rel => exact ⟨wrap64 (q - 1),by first|rfl|(simp;done)|(simp [*];done),by first|rfl|(simp;done)|(simp [*];done),by first|rfl|(simp;done)|(simp [*];done),H3,⟨by have:=HK2.out;omega⟩,⟨by (with_reducible repeat (first|refine IE.drewN ?_ _|refine IE.drew ?_|refine IE.alloc ?_ _));exact HS.out⟩⟩
         case neg =>
          rw [if_neg c24] at H;have c24b0 : (q == 0) = false:=beq_eq_false_iff_ne.mpr c24;clear c24
          by_cases c26 : 0 ≤ a∧a < (n : Int)∧0 ≤ q∧q < 61
          case neg => rw [if_neg c26] at H;cases H
          rw [if_pos c26] at H;have A61:=Am (show 0 ≤ a∧a < (n : Int) from ⟨c26.1,c26.2.1⟩);have Q61:=Am (show 0 ≤ q∧q < 61 from ⟨c26.2.2.1,c26.2.2.2⟩);have pa : (0 ≤ a) = True:=eq_true (c26.1);have qa : (a < (n : Int)) = True:=eq_true (c26.2.1);have pq : (0 ≤ q) = True:=eq_true (c26.2.2.1);have qq : (q < 61) = True:=eq_true (c26.2.2.2);clear c26
          by_cases c27 : rdB B a q = true
          case pos =>
           rw [if_pos c27] at H;have RB_:=Am c27;clear c27
           obtain ⟨e_,he_⟩ : ∃ j : Int,wrap64 (a + q) = j:=⟨_,rfl⟩
           rw [he_] at H
           by_cases c12 : 0 ≤ e_∧e_ < (n : Int)
           case neg => rw [if_neg c12] at H;cases H
           rw [if_pos c12] at H;have E12:=Am c12;have pe : (0 ≤ e_) = True:=eq_true (c12.1);have qe : (e_ < (n : Int)) = True:=eq_true (c12.2);clear c12
           by_cases c25 : rd2 T e_ q = wrap64 (tk - 1)
           case pos =>
            rw [if_pos c25] at H;have c25b0 : (rd2 T e_ q == wrap64 (tk - 1)) = true:=beq_iff_eq.mpr c25;clear c25;simp only [Option.some.injEq,Prod.mk.injEq] at H;obtain ⟨e1_,e2_⟩:=H;subst e1_ e2_;obtain ⟨Ao,co,eo⟩:=Kd.R_slice HS.out.ol;subst eo
            go_wp2_with (first|(go_at_call 42;(with_reducible refine (impl_low.calls k2 s gp gx a v b lo _ (IZ.pb (IE.sz (by (with_reducible repeat (first|refine IE.drewN ?_ _|refine IE.drew ?_|refine IE.alloc ?_ _));exact HS.out))) (IZ.xb (IE.sz (by (with_reducible repeat (first|refine IE.drewN ?_ _|refine IE.drew ?_|refine IE.alloc ?_ _));exact HS.out))) (IZ.grd (IE.sz (by (with_reducible repeat (first|refine IE.drewN ?_ _|refine IE.drew ?_|refine IE.alloc ?_ _));exact HS.out))) Ab.out HLO.out).mono ?_);rintro e w14 ⟨rfl,hb⟩;have n0_:=Am (IE.below (by (with_reducible repeat (first|refine IE.drewN ?_ _|refine IE.drew ?_|refine IE.alloc ?_ _));exact HS.out) hb);clear HS;have HS:=n0_;clear n0_ hb;obtain ⟨hx2_0,hf2_0⟩:=IZ.atT HS.out.sz e_ q E12.out.1 E12.out.2 Q61.out.1 Q61.out.2;obtain ⟨hx1_0,hf1_0⟩:=IZ.atB HS.out.sz a q A61.out.1 A61.out.2 Q61.out.1 Q61.out.2;rw [RB_.out] at hx1_0;have hcso0 : w14.cell? ⟨go,0,none⟩ = some (.bool true):=(kC HS.out.ob 0).trans rfl;have hcso1 : w14.cell? ⟨go,1,none⟩ = some (.int .i64 k0):=(kC HS.out.ob 1).trans rfl;have hcso2 : w14.cell? ⟨go,2,none⟩ = some (.slice Ao ou.length co):=(kC HS.out.ob 2).trans rfl;have hfso0:=kF HS.out.ob 0;have hfso1:=kF HS.out.ob 1;have hfso2:=kF HS.out.ob 2)|((with_reducible refine gate_builtin (b:=.append) (xs:=#[.tmp 197,.tmp 199]) rfl ?_);at_builtin;refine Kd.R_append (Kd.int .i64) (w0:=?w0_2) w.heap.size rfl (.tmp 197) (.tmp 199) 27 3 (.int .i64 0) 8 rfl Try.underlying27 finfo3 rfl (by decide) (by omega) (.slice Ao ou.length co) ou q [.int .i64 q] (fun k => k ≠ gp∧k ≠ gx∧k ≠ gr∧k ≠ gL∧k ≠ gB∧k ≠ go) (fun _ => False) rfl rfl ?aP (fun _ hk => hk.elim) ?aF ?aO ?aB ?aS ?aL ?_;(case aP => exact rfl);(case aB => exact (Below.refl _ _));(case aF => exact IE.fresh (by (with_reducible repeat (first|refine IE.drewN ?_ _|refine IE.drew ?_|refine IE.alloc ?_ _));exact HS.out));(case aO => exact IE.ol (by (with_reducible repeat (first|refine IE.drewN ?_ _|refine IE.drew ?_|refine IE.alloc ?_ _));exact HS.out));(case aS => exact IE.hw (by (with_reducible repeat (first|refine IE.drewN ?_ _|refine IE.drew ?_|refine IE.alloc ?_ _));exact HS.out));(case aL => have:=C22.out;omega);intro v1 w13 ho hb hg hat;obtain ⟨A2,c2_,e2_⟩:=Kd.R_slice ho;rw [show (ou ++ [q]).length = ou.length + 1 from by simp] at e2_;subst e2_;have n0_:=Am (IE.app (by (with_reducible repeat (first|refine IE.drewN ?_ _|refine IE.drew ?_|refine IE.alloc ?_ _));exact HS.out) ho hb hg);clear HS;have HS:=n0_;clear n0_ ho hb hg hat;have hcto0 : w13.cell? ⟨go,0,none⟩ = some (.bool true):=(kC HS.out.ob 0).trans rfl;have hcto1 : w13.cell? ⟨go,1,none⟩ = some (.int .i64 k0):=(kC HS.out.ob 1).trans rfl;have hcto2 : w13.cell? ⟨go,2,none⟩ = some (.slice Ao ou.length co):=(kC HS.out.ob 2).trans rfl;have hfto0:=kF HS.out.ob 0;have hfto1:=kF HS.out.ob 1;have hfto2:=kF HS.out.ob 2))
            go_roundg k1
            case measure => omega
            case rel => exact ⟨e_,q,wrap64 (tk - 1),.slice A2 (ou.length + 1) c2_,ou ++ [q],by first|rfl|(simp;done)|(simp [*];done),by first|rfl|(simp;done)|(simp [*];done),by first|rfl|(simp;done)|(simp [*];done),H',⟨by have:=HK1.out;omega⟩,⟨by (with_reducible repeat (first|refine IE.drewN ?_ _|refine IE.drew ?_|refine IE.alloc ?_ _));exact IE.put HS.out⟩⟩
           case neg =>
            rw [if_neg c25] at H;have c25b0 : (rd2 T e_ q == wrap64 (tk - 1)) = false:=beq_eq_false_iff_ne.mpr c25;clear c25;have H3:=Am H;clear H
            go_wp2_with (first|(go_at_call 42;(with_reducible refine (impl_low.calls k2 s gp gx a v b lo _ (IZ.pb (IE.sz (by (with_reducible repeat (first|refine IE.drewN ?_ _|refine IE.drew ?_|refine IE.alloc ?_ _));exact HS.out))) (IZ.xb (IE.sz (by (with_reducible repeat (first|refine IE.drewN ?_ _|refine IE.drew ?_|refine IE.alloc ?_ _));exact HS.out))) (IZ.grd (IE.sz (by (with_reducible repeat (first|refine IE.drewN ?_ _|refine IE.drew ?_|refine IE.alloc ?_ _));exact HS.out))) Ab.out HLO.out).mono ?_);rintro e w14 ⟨rfl,hb⟩;have n0_:=Am (IE.below (by (with_reducible repeat (first|refine IE.drewN ?_ _|refine IE.drew ?_|refine IE.alloc ?_ _));exact HS.out) hb);clear HS;have HS:=n0_;clear n0_ hb;obtain ⟨hx2_0,hf2_0⟩:=IZ.atT HS.out.sz e_ q E12.out.1 E12.out.2 Q61.out.1 Q61.out.2;obtain ⟨hx1_0,hf1_0⟩:=IZ.atB HS.out.sz a q A61.out.1 A61.out.2 Q61.out.1 Q61.out.2;rw [RB_.out] at hx1_0))
            go_roundg k2
            case measure => omega
            case rel => exact ⟨wrap64 (q - 1),by first|rfl|(simp;done)|(simp [*];done),by first|rfl|(simp;done)|(simp [*];done),by first|rfl|(simp;done)|(simp [*];done),H3,⟨by have:=HK2.out;omega⟩,⟨by (with_reducible repeat (first|refine IE.drewN ?_ _|refine IE.drew ?_|refine IE.alloc ?_ _));exact HS.out⟩⟩
          case neg =>
           rw [if_neg c27] at H;have RB_:=Am (Bool.eq_false_iff.mpr c27);clear c27;have H3:=Am H;clear H
           go_wp2_with (first|(go_at_call 42;(with_reducible refine (impl_low.calls k2 s gp gx a v b lo _ (IZ.pb (IE.sz (by (with_reducible repeat (first|refine IE.drewN ?_ _|refine IE.drew ?_|refine IE.alloc ?_ _));exact HS.out))) (IZ.xb (IE.sz (by (with_reducible repeat (first|refine IE.drewN ?_ _|refine IE.drew ?_|refine IE.alloc ?_ _));exact HS.out))) (IZ.grd (IE.sz (by (with_reducible repeat (first|refine IE.drewN ?_ _|refine IE.drew ?_|refine IE.alloc ?_ _));exact HS.out))) Ab.out HLO.out).mono ?_);rintro e w14 ⟨rfl,hb⟩;have n0_:=Am (IE.below (by (with_reducible repeat (first|refine IE.drewN ?_ _|refine IE.drew ?_|refine IE.alloc ?_ _));exact HS.out) hb);clear HS;have HS:=n0_;clear n0_ hb;obtain ⟨hx1_0,hf1_0⟩:=IZ.atB HS.out.sz a q A61.out.1 A61.out.2 Q61.out.1 Q61.out.2;rw [RB_.out] at hx1_0))
           go_roundg k2
           case measure => omega
           case rel => exact ⟨wrap64 (q - 1),by first|rfl|(simp;done)|(simp [*];done),by first|rfl|(simp;done)|(simp [*];done),by first|rfl|(simp;done)|(simp [*];done),H3,⟨by have:=HK2.out;omega⟩,⟨by (with_reducible repeat (first|refine IE.drewN ?_ _|refine IE.drew ?_|refine IE.alloc ?_ _));exact HS.out⟩⟩
        case neg =>
         rw [if_neg c23] at H;have c23b0 : decide (q ≥ lo) = false:=decide_eq_false c23;clear c23;simp only [Option.some.injEq,Prod.mk.injEq] at H;obtain ⟨e1_,e2_⟩:=H;subst e1_ e2_;obtain ⟨Ao,co,eo⟩:=Kd.R_slice HS.out.ol;subst eo
         go_wp2_with (first|(go_at_call 42;(with_reducible refine (impl_low.calls k2 s gp gx a v b lo _ (IZ.pb (IE.sz (by (with_reducible repeat (first|refine IE.drewN ?_ _|refine IE.drew ?_|refine IE.alloc ?_ _));exact HS.out))) (IZ.xb (IE.sz (by (with_reducible repeat (first|refine IE.drewN ?_ _|refine IE.drew ?_|refine IE.alloc ?_ _));exact HS.out))) (IZ.grd (IE.sz (by (with_reducible repeat (first|refine IE.drewN ?_ _|refine IE.drew ?_|refine IE.alloc ?_ _));exact HS.out))) Ab.out HLO.out).mono ?_);rintro e w14 ⟨rfl,hb⟩;have n0_:=Am (IE.below (by (with_reducible repeat (first|refine IE.drewN ?_ _|refine IE.drew ?_|refine IE.alloc ?_ _));exact HS.out) hb);clear HS;have HS:=n0_;clear n0_ hb;have hcso0 : w14.cell? ⟨go,0,none⟩ = some (.bool true):=(kC HS.out.ob 0).trans rfl;have hcso1 : w14.cell? ⟨go,1,none⟩ = some (.int .i64 k0):=(kC HS.out.ob 1).trans rfl;have hcso2 : w14.cell? ⟨go,2,none⟩ = some (.slice Ao ou.length co):=(kC HS.out.ob 2).trans rfl;have hfso0:=kF HS.out.ob 0;have hfso1:=kF HS.out.ob 1;have hfso2:=kF HS.out.ob 2)|((with_reducible refine gate_builtin (b:=.append) (xs:=#[.tmp 197,.tmp 199]) rfl ?_);at_builtin;refine Kd.R_append (Kd.int .i64) (w0:=?w0_3) w.heap.size rfl (.tmp 197) (.tmp 199) 27 3 (.int .i64 0) 8 rfl Try.underlying27 finfo3 rfl (by decide) (by omega) (.slice Ao ou.length co) ou v [.int .i64 v] (fun k => k ≠ gp∧k ≠ gx∧k ≠ gr∧k ≠ gL∧k ≠ gB∧k ≠ go) (fun _ => False) rfl rfl ?aP (fun _ hk => hk.elim) ?aF ?aO ?aB ?aS ?aL ?_;(case aP => exact rfl);(case aB => exact (Below.refl _ _));(case aF => exact IE.fresh (by (with_reducible repeat (first|refine IE.drewN ?_ _|refine IE.drew ?_|refine IE.alloc ?_ _));exact HS.out));(case aO => exact IE.ol (by (with_reducible repeat (first|refine IE.drewN ?_ _|refine IE.drew ?_|refine IE.alloc ?_ _));exact HS.out));(case aS => exact IE.hw (by (with_reducible repeat (first|refine IE.drewN ?_ _|refine IE.drew ?_|refine IE.alloc ?_ _));exact HS.out));(case aL => have:=C22.out;omega);intro v1 w13 ho hb hg hat;obtain ⟨A2,c2_,e2_⟩:=Kd.R_slice ho;rw [show (ou ++ [v]).length = ou.length + 1 from by simp] at e2_;subst e2_;have n0_:=Am (IE.app (by (with_reducible repeat (first|refine IE.drewN ?_ _|refine IE.drew ?_|refine IE.alloc ?_ _));exact HS.out) ho hb hg);clear HS;have HS:=n0_;clear n0_ ho hb hg hat;have hcto0 : w13.cell? ⟨go,0,none⟩ = some (.bool true):=(kC HS.out.ob 0).trans rfl;have hcto1 : w13.cell? ⟨go,1,none⟩ = some (.int .i64 k0):=(kC HS.out.ob 1).trans rfl;have hcto2 : w13.cell? ⟨go,2,none⟩ = some (.slice Ao ou.length co):=(kC HS.out.ob 2).trans rfl;have hfto0:=kF HS.out.ob 0;have hfto1:=kF HS.out.ob 1;have hfto2:=kF HS.out.ob 2))
         go_roundg k1
         case measure => omega
         case rel => exact ⟨a,v,wrap64 (tk - 1),.slice A2 (ou.length + 1) c2_,ou ++ [v],by first|rfl|(simp;done)|(simp [*];done),by first|rfl|(simp;done)|(simp [*];done),by first|rfl|(simp;done)|(simp [*];done),H',⟨by have:=HK1.out;omega⟩,⟨by (with_reducible repeat (first|refine IE.drewN ?_ _|refine IE.drew ?_|refine IE.alloc ?_ _));exact IE.put HS.out⟩⟩
      case neg =>
       rw [if_neg c21] at H;have c21b0 : decide (tk > 0) = false:=decide_eq_false c21;clear c21;have e_:=Option.some.inj H;subst e_;obtain ⟨Ao,co,eo⟩:=Kd.R_slice HS.out.ol;subst eo;have hcqo0 : wr.cell? ⟨go,0,none⟩ = some (.bool true):=(kC HS.out.ob 0).trans rfl;have hcqo1 : wr.cell? ⟨go,1,none⟩ = some (.int .i64 k0):=(kC HS.out.ob 1).trans rfl;have hcqo2 : wr.cell? ⟨go,2,none⟩ = some (.slice Ao ou.length co):=(kC HS.out.ob 2).trans rfl;have hfqo0:=kF HS.out.ob 0;have hfqo1:=kF HS.out.ob 1;have hfqo2:=kF HS.out.ob 2;have hcqr0 : wr.cell? ⟨gr,0,none⟩ = some (.bool false):=(kC HS.out.sz.rb 0).trans rfl;have hcqr1 : wr.cell? ⟨gr,1,none⟩ = some (.int .i64 0):=(kC HS.out.sz.rb 1).trans rfl;have hcqr2 : wr.cell? ⟨gr,2,none⟩ = some (.slice none 0 0):=(kC HS.out.sz.rb 2).trans rfl;have hfqr0:=kF HS.out.sz.rb 0;have hfqr1:=kF HS.out.sz.rb 1;have hfqr2:=kF HS.out.sz.rb 2;go_wp2;refine bodyPost_ret (results_cell_row rfl _ _ gr 41 #[.bool true,.int .i64 k0,.slice Ao ou.length co] (0,0) _ rfl (by (with_reducible repeat (first|refine kN ?_ _|refine kD ?_|refine kA ?_ _));refine blk_put (cs:=#[.bool true,.int .i64 k0,.slice none 0 0]) ?_ 2 _ rfl;(with_reducible repeat (first|refine kN ?_ _|refine kD ?_|refine kA ?_ _));refine blk_put (cs:=#[.bool true,.int .i64 0,.slice none 0 0]) ?_ 1 _ rfl;(with_reducible repeat (first|refine kN ?_ _|refine kD ?_|refine kA ?_ _));refine blk_put (cs:=#[.bool false,.int .i64 0,.slice none 0 0]) ?_ 0 _ rfl;(with_reducible repeat (first|refine kN ?_ _|refine kD ?_|refine kA ?_ _));skip;exact HS.out.sz.rb) Try.underlying41 rfl (by kernel_rfl)) rfl ?_;exact ⟨.slice Ao ou.length co,by rfl,by (with_reducible repeat (first|apply Kd.R_alloc|apply Kd.R_drewN|apply Kd.R_drew));refine Kd.R_mono (Kd.R_far (Kd.R_far (Kd.R_far HS.out.ol (fun k hk => hk.2.2.1) _) (fun k hk => hk.2.2.1) _) (fun k hk => hk.2.2.1) _) (fun _ _ => trivial),by repeat (first|(with_reducible first|exact HS.out.sz.bw|apply bA|apply bN|apply bD|refine bS ?_ HS.out.sz.nr)|exact HS.out.sz.bw)⟩
set_option maxHeartbeats 80000000 in
set_option maxRecDepth 100000 in
theorem impl_Fastest.calls (k : Nat) (A0_0 : Option Addr) (c0_0 : Nat) (l0_0 : List S39) (A0_1 : Option Addr) (c0_1 : Nat) (l0_1 : List S45) (a0_2 a0_3 a0_4 a1 a2 a3 : Int) (r1 : Bool) (r2 : Int) (r3 : List Int) (w : World) (hr0_0 : Kd.C k39 w A0_0 l0_0.length l0_0) (hc0_0 : l0_0.length ≤ c0_0) (hr0_1 : Kd.C k45 w A0_1 l0_1.length l0_1) (hc0_1 : l0_1.length ≤ c0_1) (h : impl_Fastest.f k l0_0 l0_1 a0_2 a0_3 a0_4 a1 a2 a3 = some (r1,r2,r3)) :
  Calls Try.prog 16 #[.agg #[.slice A0_0 l0_0.length c0_0,.slice A0_1 l0_1.length c0_1,.int .i64 a0_2,.int .i64 a0_3,.int .i64 a0_4],.int .i64 a1,.int .i64 a2,.int .i64 a3] w fun e w' => ∃ v_ : Value,e = .returned (.agg #[.bool r1,.int .i64 r2,v_])∧Kd.R (Kd.int .i64) 3 w' w.heap.size (fun _ => True) v_ r3∧Below w.heap.size w w' :=
 impl_Fastest.calls0 k ⟨A0_0,c0_0,l0_0,A0_1,c0_1,l0_1,a0_2,a0_3,a0_4,a1,a2,a3⟩ r1 r2 r3 w ⟨hr0_0,hc0_0,hr0_1,hc0_1⟩ h
theorem il1.mono (l0 : List S39) (l1 : List S45) (tr en de x nn a : Int) : ∀ k,∀ B z,LeO (il1 l0 l1 tr en de x nn a k B z) (il1 l0 l1 tr en de x nn a (k + 1) B z)
 | 0 => fun _ _ r h => by simp [il1] at h
 | k + 1 => by
  have ih0:=il1.mono l0 l1 tr en de x nn a k;intro B z;unfold il1
  repeat' first
   | (with_reducible exact ih0 _ _)
   | (with_reducible exact impl_touched.mono _ _ _ _ _ _ _ _)
   | (with_reducible exact LeO.refl _)
   | (with_reducible exact LeO.none _)
   | (with_reducible refine LeO.ite ?_ ?_)
   | (with_reducible refine LeO.bind ?_ (fun _ => ?_))
theorem il3.mono (ac : Int) (T : List (List Int)) (B : List (List Bool)) (a z : Int) : ∀ k,∀ q best,LeO (il3 ac T B a z k q best) (il3 ac T B a z (k + 1) q best)
 | 0 => fun _ _ r h => by simp [il3] at h
 | k + 1 => by
  have ih0:=il3.mono ac T B a z k;intro q best;unfold il3
  repeat' first
   | (with_reducible exact ih0 _ _)
   | (with_reducible exact LeO.refl _)
   | (with_reducible exact LeO.none _)
   | (with_reducible refine LeO.ite ?_ ?_)
   | (with_reducible refine LeO.bind ?_ (fun _ => ?_))
theorem il2.mono (l0 : List S39) (l1 : List S45) (tr en de ac x sh nn a : Int) (B : List (List Bool)) : ∀ k,∀ T z,LeO (il2 l0 l1 tr en de ac x sh nn a B k T z) (il2 l0 l1 tr en de ac x sh nn a B (k + 1) T z)
 | 0 => fun _ _ r h => by simp [il2] at h
 | k + 1 => by
  have ih0:=il2.mono l0 l1 tr en de ac x sh nn a B k;intro T z;unfold il2
  repeat' first
   | (with_reducible exact ih0 _ _)
   | (with_reducible exact impl_brakeAt.mono _ _ _ _ _ _ _)
   | (with_reducible exact il3.mono _ _ _ _ _ _ _ _)
   | (with_reducible exact LeO.refl _)
   | (with_reducible exact LeO.none _)
   | (with_reducible refine LeO.ite ?_ ?_)
   | (with_reducible refine LeO.bind ?_ (fun _ => ?_))
theorem il0.mono (l0 : List S39) (l1 : List S45) (tr en de ac x sh nn : Int) : ∀ k,∀ T B a,LeO (il0 l0 l1 tr en de ac x sh nn k T B a) (il0 l0 l1 tr en de ac x sh nn (k + 1) T B a)
 | 0 => fun _ _ _ r h => by simp [il0] at h
 | k + 1 => by
  have ih0:=il0.mono l0 l1 tr en de ac x sh nn k;intro T B a;unfold il0
  repeat' first
   | (with_reducible exact ih0 _ _ _)
   | (with_reducible exact il1.mono _ _ _ _ _ _ _ _ _ _ _)
   | (with_reducible exact il2.mono _ _ _ _ _ _ _ _ _ _ _ _ _ _)
   | (with_reducible exact LeO.refl _)
   | (with_reducible exact LeO.none _)
   | (with_reducible refine LeO.ite ?_ ?_)
   | (with_reducible refine LeO.bind ?_ (fun _ => ?_))
theorem il5.mono (l0 : List S39) (l1 : List S45) (tr en de x : Int) (T : List (List Int)) (B : List (List Bool)) (a v tk : Int) : ∀ k,∀ q,LeO (il5 l0 l1 tr en de x T B a v tk k q) (il5 l0 l1 tr en de x T B a v tk (k + 1) q)
 | 0 => fun _ r h => by simp [il5] at h
 | k + 1 => by
  have ih0:=il5.mono l0 l1 tr en de x T B a v tk k;intro q;unfold il5
  repeat' first
   | (with_reducible exact ih0 _)
   | (with_reducible exact impl_brakeAt.mono _ _ _ _ _ _ _)
   | (with_reducible exact LeO.refl _)
   | (with_reducible exact LeO.none _)
   | (with_reducible refine LeO.ite ?_ ?_)
   | (with_reducible refine LeO.bind ?_ (fun _ => ?_))
theorem il4.mono (l0 : List S39) (l1 : List S45) (tr en de ac x : Int) (T : List (List Int)) (B : List (List Bool)) : ∀ k,∀ a v tk ou,LeO (il4 l0 l1 tr en de ac x T B k a v tk ou) (il4 l0 l1 tr en de ac x T B (k + 1) a v tk ou)
 | 0 => fun _ _ _ _ r h => by simp [il4] at h
 | k + 1 => by
  have ih0:=il4.mono l0 l1 tr en de ac x T B k;intro a v tk ou;unfold il4
  repeat' first
   | (with_reducible exact ih0 _ _ _ _)
   | (with_reducible exact il5.mono _ _ _ _ _ _ _ _ _ _ _ _ _)
   | (with_reducible exact LeO.refl _)
   | (with_reducible exact LeO.none _)
   | (with_reducible refine LeO.ite ?_ ?_)
   | (with_reducible refine LeO.bind ?_ (fun _ => ?_))
theorem impl_Fastest.mono : ∀ a0 a1 a2 a3 a4 a5 a6 a7 k,LeO (impl_Fastest.f k a0 a1 a2 a3 a4 a5 a6 a7) (impl_Fastest.f (k + 1) a0 a1 a2 a3 a4 a5 a6 a7):=by
 intro a0 a1 a2 a3 a4 a5 a6 a7 k;unfold impl_Fastest.f
 repeat' first
  | (with_reducible exact il0.mono _ _ _ _ _ _ _ _ _ _ _ _ _)
  | (with_reducible exact il4.mono _ _ _ _ _ _ _ _ _ _ _ _ _ _)
  | (with_reducible exact LeO.refl _)
  | (with_reducible exact LeO.none _)
  | (with_reducible refine LeO.ite ?_ ?_)
  | (with_reducible refine LeO.bind ?_ (fun _ => ?_))

end Go.Proofs.Ytanjbdgmnecacaa.PR
