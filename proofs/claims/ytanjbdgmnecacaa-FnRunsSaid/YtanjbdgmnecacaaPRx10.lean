-- Written by a program of this session (wip/print/myprint.py) over the kit's print, with contracts of its own; not a text of print.sh's.
import Derived.Test.YtanjbdgmnecacaaPRx0
import Derived.Test.YtanjbdgmnecacaaPRx4
import Derived.Test.YtanjbdgmnecacaaPRx5
import Derived.Test.YtanjbdgmnecacaaPRx9
namespace Go.Proofs.Ytanjbdgmnecacaa.PR
open Go.RowKit Go.Proofs.YtanjbdgmnecacaaW.PrintWords Go.Proofs.YtanjbdgmnecacaaW.PrintLast Go.Proofs.YtanjbdgmnecacaaW.PrintMore
attribute [local go_sem] max2_int min2_int max_two min_two   -- for this text's walks alone
set_option linter.unusedVariables false
set_option linter.unusedSimpArgs false

/-! ### the state l4G of the reference: its cells, its small methods -/
/-- What a state holds, but for its own list. -/
structure GSt where
 A0 : Option Addr
 c0 : Nat
 l0 : List S39
 A1 : Option Addr
 c1 : Nat
 l1 : List S45
 tr : Int
 en : Int
 de : Int
 ac : Int
 x : Int
 sh : Int
/-- Its lists can be read. -/
structure GRd (s : GSt) (w : World) : Prop where
 k0 : Kd.C k39 w s.A0 s.l0.length s.l0
 n0 : s.l0.length ≤ s.c0
 k1 : Kd.C k45 w s.A1 s.l1.length s.l1
 n1 : s.l1.length ≤ s.c1
theorem GRd.below {s : GSt} {w w1 : World} (h : GRd s w) (hb : Below w.heap.size w w1) : GRd s w1:=⟨Kd.C_below h.k0 hb,h.n0,Kd.C_below h.k1 hb,h.n1⟩
theorem l4_at.calls0 (v : Value) (d z : Int) (w : World) : Calls Try.prog 50 #[v,.int .i64 d,.int .i64 z] w fun e w' => e = .returned (.int .i64 (wrap64 (wrap64 (d * 61) + z)))∧Drawn0 w w':=by
 go_enter Try.func50,Try.ntmps50
 go_wp2;go_ret;exact ⟨by rfl,by repeat (first|exact Drawn0.refl _|apply Drawn0.step)⟩
theorem drawn_below {w w' : World} (h : Drawn0 w w') : Below w.heap.size w w':=by
 obtain ⟨m,rfl⟩:=h;exact bN (Below.refl _ _) m
theorem l4_at.calls (v : Value) (d z ix : Int) (w : World) (h : wrap64 (wrap64 (d * 61) + z) = ix) : Calls Try.prog 50 #[v,.int .i64 d,.int .i64 z] w fun e w' => e = .returned (.int .i64 ix)∧Below w.heap.size w w' :=
 (l4_at.calls0 v d z w).mono (fun _ _ hh => ⟨by rw [hh.1,h],drawn_below hh.2⟩)
/-- The greatest next speed. -/
def hiV (ac v : Int) : Int:=if wrap64 (v + ac) > 60 then 60 else wrap64 (v + ac)

theorem l4_high.calls0 (s : GSt) (g : Nat) (u : Value) (v : Int) (w : World) (st : w.heap[g]? = some (.cells #[.slice s.A0 s.l0.length s.c0,.slice s.A1 s.l1.length s.c1,.int .i64 s.tr,.int .i64 s.en,.int .i64 s.de,.int .i64 s.ac,.int .i64 s.x,.int .i64 s.sh,u] 72 (0,0))) : Calls Try.prog 46 #[.pointer (some ⟨g,0,none⟩),.int .i64 v] w fun e w' => e = .returned (.int .i64 (hiV s.ac v))∧Drawn0 w w':=by
 have hcg5 : w.cell? ⟨g,5,none⟩ = some (.int .i64 s.ac):=(kC st 5).trans rfl;have hfg5:=kF st 5;clear st;unfold hiV
 by_cases c : wrap64 (v + s.ac) > 60
 ·rw [if_pos c];have c0 : decide (wrap64 (v + s.ac) > 60) = true:=decide_eq_true c;clear c
  go_enter Try.func46,Try.ntmps46
  go_wp2;go_ret;exact ⟨by rfl,by repeat (first|exact Drawn0.refl _|apply Drawn0.step)⟩
 ·rw [if_neg c];have c0 : decide (wrap64 (v + s.ac) > 60) = false:=decide_eq_false c;clear c
  go_enter Try.func46,Try.ntmps46
  go_wp2;go_ret;exact ⟨by rfl,by repeat (first|exact Drawn0.refl _|apply Drawn0.step)⟩
theorem l4_high.calls (s : GSt) (g : Nat) (u : Value) (v hi : Int) (w : World) (st : w.heap[g]? = some (.cells #[.slice s.A0 s.l0.length s.c0,.slice s.A1 s.l1.length s.c1,.int .i64 s.tr,.int .i64 s.en,.int .i64 s.de,.int .i64 s.ac,.int .i64 s.x,.int .i64 s.sh,u] 72 (0,0))) (h : hiV s.ac v = hi) : Calls Try.prog 46 #[.pointer (some ⟨g,0,none⟩),.int .i64 v] w fun e w' => e = .returned (.int .i64 hi)∧Below w.heap.size w w' :=
 (l4_high.calls0 s g u v w st).mono (fun _ _ hh => ⟨by rw [hh.1,h],drawn_below hh.2⟩)
/-- Near enough to the end, at a standstill. -/
def homeV (x en sh d z : Int) : Bool:=if z = 0 then (if wrap64 (x + d) ≤ en then decide (wrap64 (x + d) ≥ wrap64 (en - sh)) else false) else false
theorem l4_home.calls0 (s : GSt) (g : Nat) (u : Value) (d : Int) (w : World) (st : w.heap[g]? = some (.cells #[.slice s.A0 s.l0.length s.c0,.slice s.A1 s.l1.length s.c1,.int .i64 s.tr,.int .i64 s.en,.int .i64 s.de,.int .i64 s.ac,.int .i64 s.x,.int .i64 s.sh,u] 72 (0,0))) : Calls Try.prog 48 #[.pointer (some ⟨g,0,none⟩),.int .i64 d,.int .i64 0] w fun e w' => e = .returned (.bool (homeV s.x s.en s.sh d 0))∧Drawn0 w w':=by
 have hcg3 : w.cell? ⟨g,3,none⟩ = some (.int .i64 s.en):=(kC st 3).trans rfl;have hcg6 : w.cell? ⟨g,6,none⟩ = some (.int .i64 s.x):=(kC st 6).trans rfl;have hcg7 : w.cell? ⟨g,7,none⟩ = some (.int .i64 s.sh):=(kC st 7).trans rfl;have hfg3:=kF st 3;have hfg6:=kF st 6;have hfg7:=kF st 7;clear st;unfold homeV;rw [if_pos rfl]
 by_cases c : wrap64 (s.x + d) ≤ s.en
 ·rw [if_pos c];have c0 : decide (wrap64 (s.x + d) ≤ s.en) = true:=decide_eq_true c;clear c
  go_enter Try.func48,Try.ntmps48
  go_wp2
  repeat (go_quiet (fail);try go_wp2)
  go_ret;exact ⟨by first|rfl|(simp;done)|(simp [*];done),by repeat (first|exact Drawn0.refl _|apply Drawn0.step)⟩
 ·rw [if_neg c];have c0 : decide (wrap64 (s.x + d) ≤ s.en) = false:=decide_eq_false c;clear c
  go_enter Try.func48,Try.ntmps48
  go_wp2
  repeat (go_quiet (fail);try go_wp2)
  go_ret;exact ⟨by first|rfl|(simp;done)|(simp [*];done),by repeat (first|exact Drawn0.refl _|apply Drawn0.step)⟩
theorem l4_home.calls (s : GSt) (g : Nat) (u : Value) (d : Int) (b : Bool) (w : World) (st : w.heap[g]? = some (.cells #[.slice s.A0 s.l0.length s.c0,.slice s.A1 s.l1.length s.c1,.int .i64 s.tr,.int .i64 s.en,.int .i64 s.de,.int .i64 s.ac,.int .i64 s.x,.int .i64 s.sh,u] 72 (0,0))) (h : homeV s.x s.en s.sh d 0 = b) : Calls Try.prog 48 #[.pointer (some ⟨g,0,none⟩),.int .i64 d,.int .i64 0] w fun e w' => e = .returned (.bool b)∧Below w.heap.size w w' :=
 (l4_home.calls0 s g u d w st).mono (fun _ _ hh => ⟨by rw [hh.1,h],drawn_below hh.2⟩)
def l4_low.T1 : Bool × List (List Nat × List Nat):=(true,[([],[]),([],[]),([1],[1]),([2],[2]),([3],[3]),([],[]),([5],[5]),([6],[6]),([7],[7]),([],[]),([8,9],[8,9]),([4,10],[4,10]),([0,11,11],[0,11]),([12,12,0,1,2,3,4,5,6,7,8,9,10,11,12],[12])])
def l4_low.B1 : List Nat:=[0,0,2,6,14,0,32,96,224,0,992,2046,4095,8191]
theorem l4_low.tab1 : rtab .any (opsOf Try.f45 1) = l4_low.T1:=by kernel_rfl
theorem l4_low.bits1 : waitsOk l4_low.T1.2 l4_low.B1 = true:=by kernel_rfl
set_option maxHeartbeats 80000000 in
set_option maxRecDepth 100000 in
theorem l4_low.calls (k : Nat) (s : GSt) (g : Nat) (u : Value) (d v rt lo : Int) (w : World) (st : w.heap[g]? = some (.cells #[.slice s.A0 s.l0.length s.c0,.slice s.A1 s.l1.length s.c1,.int .i64 s.tr,.int .i64 s.en,.int .i64 s.de,.int .i64 s.ac,.int .i64 s.x,.int .i64 s.sh,u] 72 (0,0))) (hr : GRd s w) (h1 : spec_l2rate.f k s.l0 s.l1 s.tr s.en s.de (wrap64 (s.x + d)) = some rt) (h2 : spec_l2less.f v rt = some lo) : Calls Try.prog 45 #[.pointer (some ⟨g,0,none⟩),.int .i64 d,.int .i64 v] w fun e w' => e = .returned (.int .i64 lo)∧Below w.heap.size w w':=by
 have hu26:=Try.underlying26;have ST:=Am st;clear st;have HR:=Am hr;clear hr;have A1:=Am h1;clear h1;have A2:=Am h2;clear h2;have HB:=Am (Below.refl w.heap.size w)
 go_enter Try.func45,Try.ntmps45
 try go_wp2
 have n0_:=Am (kD ST.out);have n1_:=Am (bD HB.out);clear ST HB;have ST:=n0_;have HB:=n1_;clear n0_ n1_;refine start_ (n:=14) (S:=fun w' => w'.cell? ⟨g,0,none⟩ = some (.slice s.A0 s.l0.length s.c0)∧w'.cell? ⟨g,1,none⟩ = some (.slice s.A1 s.l1.length s.c1)∧w'.cell? ⟨g,2,none⟩ = some (.int .i64 s.tr)∧w'.cell? ⟨g,3,none⟩ = some (.int .i64 s.en)∧w'.cell? ⟨g,4,none⟩ = some (.int .i64 s.de)∧w'.cell? ⟨g,6,none⟩ = some (.int .i64 s.x)) (ds:=[]) #[false,false,false,false,false,false,false,false,false,false,false,false,false,false] (by kernel_rfl) rfl rfl ⟨(kC ST.out 0).trans rfl,(kC ST.out 1).trans rfl,(kC ST.out 2).trans rfl,(kC ST.out 3).trans rfl,(kC ST.out 4).trans rfl,(kC ST.out 6).trans rfl⟩ (fun hHeld => ?_);refine with_tabW l4_low.tab1 l4_low.bits1 (fun HT_ HW_ => ?_);generalize w.drew = w7 at ST HB hHeld ⊢;refine pure_ (i:=0) (N:=some 7) (v:=?_) (a':=?_) #[true,false,false,false,false,false,false,false,false,false,false,false,false,false] rfl rfl (any_of HT_.out (by kernel_rfl)) (fun _ _ _ h => h) (Or.inl ⟨by rfl,?_⟩) ?_ ?_;rotate_left
 ·intro w'
  go_simp
  with_reducible rfl
 rotate_left
 ·simp only [Act.put,pS]
  rfl
 refine pure_ (i:=1) (N:=some 8) (v:=?_) (a':=?_) #[true,true,false,false,false,false,false,false,false,false,false,false,false,false] rfl rfl (any_of HT_.out (by kernel_rfl)) (fun _ _ _ h => h) (Or.inl ⟨by rfl,?_⟩) ?_ ?_;rotate_left
 ·intro w'
  go_simp
  with_reducible rfl
 rotate_left
 ·simp only [Act.put,pS]
  rfl
 refine pure_ (i:=2) (N:=some 9) (v:=?_) (a':=?_) #[true,true,true,false,false,false,false,false,false,false,false,false,false,false] rfl rfl (any_of HT_.out (by kernel_rfl)) (fun _ _ _ h => h) (Or.inl ⟨by rfl,?_⟩) ?_ ?_;rotate_left
 ·intro w'
  go_simp
  with_reducible rfl
 rotate_left
 ·simp only [Act.put,pS]
  rfl
 refine pure_ (i:=3) (N:=some 10) (v:=?_) (a':=?_) #[true,true,true,true,false,false,false,false,false,false,false,false,false,false] rfl rfl (any_of HT_.out (by kernel_rfl)) (fun _ _ _ h => h) (Or.inl ⟨by rfl,?_⟩) ?_ ?_;rotate_left
 ·intro w'
  go_simp
  with_reducible rfl
 rotate_left
 ·simp only [Act.put,pS]
  rfl
 refine pure_ (i:=5) (N:=some 12) (v:=?_) (a':=?_) #[true,true,true,true,false,true,false,false,false,false,false,false,false,false] rfl rfl (any_of HT_.out (by kernel_rfl)) (fun _ _ _ h => h) (Or.inl ⟨by rfl,?_⟩) ?_ ?_;rotate_left
 ·intro w'
  go_simp
  with_reducible rfl
 rotate_left
 ·simp only [Act.put,pS]
  rfl
 refine pure_ (i:=6) (N:=some 13) (v:=?_) (a':=?_) #[true,true,true,true,false,true,true,false,false,false,false,false,false,false] rfl rfl (any_of HT_.out (by kernel_rfl)) (fun _ _ _ h => h) (Or.inl ⟨by rfl,?_⟩) ?_ ?_;rotate_left
 ·intro w'
  go_simp
  with_reducible rfl
 rotate_left
 ·simp only [Act.put,pS]
  rfl
 refine pure_ (i:=7) (N:=some 14) (v:=?_) (a':=?_) #[true,true,true,true,false,true,true,true,false,false,false,false,false,false] rfl rfl (any_of HT_.out (by kernel_rfl)) (fun _ _ _ h => h) (Or.inl ⟨by rfl,?_⟩) ?_ ?_;rotate_left
 ·intro w'
  go_simp
  with_reducible rfl
 rotate_left
 ·simp only [Act.put,pS]
  rfl
 refine pure_ (i:=9) (N:=some 16) (v:=?_) (a':=?_) #[true,true,true,true,false,true,true,true,false,true,false,false,false,false] rfl rfl (any_of HT_.out (by kernel_rfl)) (fun _ _ _ h => h) (Or.inl ⟨by rfl,?_⟩) ?_ ?_;rotate_left
 ·intro w'
  go_simp
  with_reducible rfl
 rotate_left
 ·simp only [Act.put,pS]
  rfl
 refine take_ (i:=4) (N:=some 11) (v:=?_) (a':=?_) #[true,true,true,true,true,true,true,true,false,true,false,false,false,false] rfl rfl (take_ofW HT_.out HW_.out (by kernel_rfl)) (fun _ _ _ h => h) (Or.inl ⟨by rfl,?_⟩) hHeld ?_ ?_;rotate_left
 ·rintro w' ⟨s0,s1,s2,s3,s4,s5⟩
  go_simp
  with_reducible rfl
 rotate_left
 ·simp only [Act.put,pS]
  rfl
 refine take_ (i:=8) (N:=some 15) (v:=?_) (a':=?_) #[true,true,true,true,true,true,true,true,true,true,false,false,false,false] rfl rfl (take_ofW HT_.out HW_.out (by kernel_rfl)) (fun _ _ _ h => h) (Or.inl ⟨by rfl,?_⟩) hHeld ?_ ?_;rotate_left
 ·rintro w' ⟨s0,s1,s2,s3,s4,s5⟩
  go_simp
  with_reducible rfl
 rotate_left
 ·simp only [Act.put,pS]
  rfl
 refine pure_ (i:=10) (N:=some 17) (v:=?_) (a':=?_) #[true,true,true,true,true,true,true,true,true,true,true,false,false,false] rfl rfl (any_of HT_.out (by kernel_rfl)) (fun _ _ _ h => h) (Or.inl ⟨by rfl,?_⟩) ?_ ?_;rotate_left
 ·intro w'
  go_simp
  with_reducible rfl
 rotate_left
 ·simp only [Act.put,pS]
  rfl
 refine one_ (i:=11) (N:=some 18) #[true,true,true,true,true,true,true,true,true,true,true,true,false,false] rfl rfl (one_of HT_.out (by kernel_rfl)) (by decide) (fun K hK => ?_);refine goes_ Try.func40 (by kernel_rfl) rfl #[.agg #[.slice s.A0 s.l0.length s.c0,.slice s.A1 s.l1.length s.c1,.int .i64 s.tr,.int .i64 s.en,.int .i64 s.de],.int .i64 (wrap64 (s.x + d))] (by rfl) rfl rfl lA ?_
 with_reducible refine (spec_l2rate.calls k _ _ s.l0 _ _ s.l1 s.tr s.en s.de (wrap64 (s.x + d)) rt _ (GRd.below HR.out HB.out).k0 HR.out.n0 (GRd.below HR.out HB.out).k1 HR.out.n1 A1.out).mono ?_
 rintro e w8 ⟨rfl,hb⟩;refine ⟨_,rfl,?_⟩;have n0_:=Am (blk_below (g:=g) (o:=.cells #[.slice s.A0 s.l0.length s.c0,.slice s.A1 s.l1.length s.c1,.int .i64 s.tr,.int .i64 s.en,.int .i64 s.de,.int .i64 s.ac,.int .i64 s.x,.int .i64 s.sh,u] 72 (0,0)) ST.out hb);have n1_:=Am (below_step HB.out hb);clear ST HB;have ST:=n0_;have HB:=n1_;clear n0_ n1_;(try clear hb);refine hK.out _ _ ⟨(kC ST.out 0).trans rfl,(kC ST.out 1).trans rfl,(kC ST.out 2).trans rfl,(kC ST.out 3).trans rfl,(kC ST.out 4).trans rfl,(kC ST.out 6).trans rfl⟩ (fun hHeld => ?_);clear hK K;refine norm_ (a':=?_) ?_ ?_;rotate_left
 ·show Act.put _ (some 18) _ = _
  simp only [Act.put,pS]
  rfl
 refine one_ (i:=12) (N:=some 19) #[true,true,true,true,true,true,true,true,true,true,true,true,true,false] rfl rfl (one_of HT_.out (by kernel_rfl)) (by decide) (fun K hK => ?_);refine goes_ Try.func39 (by kernel_rfl) rfl #[.int .i64 v,.int .i64 rt] (by rfl) rfl rfl lA ?_
 with_reducible refine (spec_l2less.calls v rt lo _ A2.out).mono ?_
 rintro e w' ⟨rfl,⟨nd,rfl⟩⟩;refine ⟨_,rfl,?_⟩;refine hK.out _ _ ⟨(kC ST.out 0).trans rfl,(kC ST.out 1).trans rfl,(kC ST.out 2).trans rfl,(kC ST.out 3).trans rfl,(kC ST.out 4).trans rfl,(kC ST.out 6).trans rfl⟩ (fun hHeld => ?_);clear hK K;refine norm_ (a':=?_) ?_ ?_;rotate_left
 ·show Act.put _ (some 19) _ = _
  simp only [Act.put,pS]
  rfl
 refine pure_ (i:=13) (N:=some 6) (v:=?_) (a':=?_) #[true,true,true,true,true,true,true,true,true,true,true,true,true,true] rfl rfl (any_of HT_.out (by kernel_rfl)) (fun _ _ _ h => h) (Or.inl ⟨by rfl,?_⟩) ?_ ?_;rotate_left
 ·intro w'
  go_simp
  with_reducible rfl
 rotate_left
 ·simp only [Act.put,pS]
  rfl
 refine done_ (done_of HT_.out (by kernel_rfl)) ?_
 try go_wp2
 go_ret;exact ⟨by first|rfl|(simp;done)|(simp [*];done),bL HB⟩
/-! ### fill's surroundings: the state's block, its own list's block, the line of states still to look at -/
structure FE (s : GSt) (w0 w W : World) (g gl cl n : Nat) (Li : List Int) (vl : Value) (line : List Int) : Prop where
 st : W.heap[g]? = some (.cells #[.slice s.A0 s.l0.length s.c0,.slice s.A1 s.l1.length s.c1,.int .i64 s.tr,.int .i64 s.en,.int .i64 s.de,.int .i64 s.ac,.int .i64 s.x,.int .i64 s.sh,.slice (some ⟨gl,0,none⟩) n cl] 72 (0,0))
 nn : Li.length = n
 lf : Kd.R (Kd.int .i64) 3 W w.heap.size (fun k => k = gl) (.slice (some ⟨gl,0,none⟩) n cl) Li
 ln : Kd.R (Kd.int .i64) 3 W w.heap.size (fun k => k ≠ gl) vl line
 gg : g < w.heap.size
 gl_ : w.heap.size ≤ gl
 g0 : w0.heap.size ≤ g
 hw : w.heap.size ≤ W.heap.size
 kp : KeepBut w W g none
 bw : Below w0.heap.size w0 W
 rd : GRd s w0
section
variable {s : GSt} {w0 w W W1 w1 : World} {g gl cl n : Nat} {Li : List Int} {vl u : Value} {line : List Int}
theorem FE.below (h : FE s w0 w W g gl cl n Li vl line) (hb : Below W.heap.size W W1) : FE s w0 w W1 g gl cl n Li vl line :=
 ⟨blk_below h.st hb,h.nn,Kd.R_below h.lf hb,Kd.R_below h.ln hb,h.gg,h.gl_,h.g0,Nat.le_trans h.hw hb.size,KeepBut.trans h.kp (KeepBut.of_below hb g none) (.inl rfl),below_step h.bw hb,h.rd⟩
theorem FE.drewN (h : FE s w0 w W g gl cl n Li vl line) (m : Nat) : FE s w0 w (W.drewN m) g gl cl n Li vl line:=h.below (bN (Below.refl _ _) m)
theorem FE.drew (h : FE s w0 w W g gl cl n Li vl line) : FE s w0 w W.drew g gl cl n Li vl line:=h.below (bD (Below.refl _ _))
theorem FE.alloc (h : FE s w0 w W g gl cl n Li vl line) (o : Obj) : FE s w0 w (W.alloc o) g gl cl n Li vl line:=h.below (bA (Below.refl _ _) o)
theorem FE.grd (h : FE s w0 w W g gl cl n Li vl line) : GRd s W:=h.rd.below h.bw
theorem FE.set (h : FE s w0 w W g gl cl n Li vl line) (i v : Int) : FE s w0 w (W.setCell ⟨gl,i.toNat,none⟩ (.int .i64 v)) g gl cl n (Li.set i.toNat v) vl line:=by
 have hne : ∀ k,k < w.heap.size → k ≠ gl:=fun k hk => by have:=h.gl_;omega
 have hsz : (W.setCell ⟨gl,i.toNat,none⟩ (.int .i64 v)).heap.size = W.heap.size:=by simp [World.setCell]
 exact ⟨blk_far h.st (hne g h.gg) _,by rw [List.length_set];exact h.nn,(Kd.R_putg h.lf i v).1,Kd.R_far h.ln (fun k hk => hk) _,h.gg,h.gl_,h.g0,by rw [hsz];exact h.hw,
  ⟨by rw [hsz];exact h.kp.1,fun k hk hg hr => (Below.heap_setCell W ⟨gl,i.toNat,none⟩ _ k (hne k hk)).trans (h.kp.2 k hk hg hr)⟩,
  h.bw.setCell (by have:=h.g0;have:=h.gg;have:=h.gl_;show w0.heap.size ≤ gl;omega) _,h.rd⟩
theorem FE.start (hst : w1.heap[g]? = some (.cells #[.slice s.A0 s.l0.length s.c0,.slice s.A1 s.l1.length s.c1,.int .i64 s.tr,.int .i64 s.en,.int .i64 s.de,.int .i64 s.ac,.int .i64 s.x,.int .i64 s.sh,u] 72 (0,0))) (ho : Kd.R (Kd.int .i64) 3 w1 w.heap.size (fun _ => True) (.slice (some ⟨gl,0,none⟩) n cl) (List.replicate n 0)) (hb : Below w.heap.size w w1) (hB : Below w0.heap.size w0 w) (h0 : w0.heap.size ≤ g) (h1 : g < w.heap.size) (h2 : w.heap.size ≤ gl) (hr : GRd s w0) :
  FE s w0 w (w1.setCell ⟨g,8,none⟩ (.slice (some ⟨gl,0,none⟩) n cl)) g gl cl n (List.replicate n 0) (.slice none 0 0) []:=by
 have hne : gl ≠ g:=by omega
 have hsz : (w1.setCell ⟨g,8,none⟩ (.slice (some ⟨gl,0,none⟩) n cl)).heap.size = w1.heap.size:=by simp [World.setCell]
 have ho2 : Kd.R (Kd.int .i64) 3 w1 w.heap.size (fun k => k = gl) (.slice (some ⟨gl,0,none⟩) n cl) (List.replicate n 0):=⟨fun k hk => by simpa [Value.ownBlock] using hk.symm,ho.2⟩
 have hB1 : Below w0.heap.size w0 w1:=below_then hB hB.size hb;exact ⟨(blk_set hst 8 _).trans rfl,by simp,Kd.R_far ho2 (fun k hk => by rw [hk];exact hne) _,Kd.R_nil _ _ _ _ _,h1,h2,h0,by rw [hsz];exact hb.size,KeepBut.set_ (KeepBut.of_below hb g none) 8 _,hB1.setCell h0 _,hr⟩
theorem FE.own (h : FE s w0 w W g gl cl n Li vl line) : ∀ k,vl.ownBlock = some k → w.heap.size ≤ k∧k ≠ gl:=fun k hk => ⟨Kd.R_base h.ln k hk,h.ln.1 k hk⟩
theorem FE.app (h : FE s w0 w W g gl cl n Li vl line) {v1 : Value} {l1 : List Int} (hr : Kd.R (Kd.int .i64) 3 W1 w.heap.size (fun k => k ≠ gl) v1 l1) (hb : Below w.heap.size W W1) (hg : W.grownBy W1 vl.ownBlock) : FE s w0 w W1 g gl cl n Li v1 l1:=by
 have h1 : some g ≠ vl.ownBlock:=fun e => by have:=(h.own g e.symm).1;have:=h.gg;omega
 have h2 : some gl ≠ vl.ownBlock:=fun e => (h.own gl e.symm).2 rfl
 exact ⟨blk_grown h.st hg h1,h.nn,Kd.R_step h.lf (fun k hk hlt => hg.block k hlt (by rw [hk];exact h2)),hr,h.gg,h.gl_,h.g0,Nat.le_trans h.hw hb.size,
  ⟨Nat.le_trans h.kp.1 hb.size,fun k hk hg' hr' => (hb.block k hk).trans (h.kp.2 k hk hg' hr')⟩,h.bw.trans (hb.mono (by have:=h.g0;have:=h.gg;omega)),h.rd⟩
end

/-! ### spec_l4G_fill: function 49 -/
theorem finfo3 : (Try.prog.info? 3).map (fun i => (i.zero,i.size,i.bytes)) = some (some (.int .i64 0),1,8):=by kernel_rfl
theorem FE.fresh {s : GSt} {w0 w W : World} {g gl cl n : Nat} {Li : List Int} {vl : Value} {line : List Int} (h : FE s w0 w W g gl cl n Li vl line) : ∀ k,W.heap.size ≤ k → k ≠ gl:=fun k hk => by
 have:=Kd.R_lt h.lf gl (by simp [Value.ownBlock]);omega
def fillV (i n : Nat) : List Int:=List.replicate i (-1) ++ List.replicate (n - i) 0
theorem fillV_set {i n : Nat} (h : i < n) : (fillV i n).set i (-1) = fillV (i + 1) n:=by
 unfold fillV;rw [List.set_append_right _ _ (by simp)];rw [List.length_replicate,Nat.sub_self,show n - i = (n - (i + 1)) + 1 by omega,List.replicate_succ,List.set_cons_zero,List.replicate_succ',List.append_assoc];rfl
theorem fillV_zero (n : Nat) : fillV 0 n = List.replicate n 0:=by unfold fillV;simp
theorem fillV_all (n : Nat) : fillV n n = List.replicate n (-1):=by unfold fillV;simp
/-- Where a train has come home. -/
def fl1 (en x sh n : Int) : Nat → List Int → List Int → Int → Option (List Int × List Int)
 | 0,_,_,_ => none
 | k + 1,M,li,d => if d ≤ n then (if homeV x en sh d 0 = true then (if 0 ≤ wrap64 (wrap64 (d * 61) + 0) then (if wrap64 (wrap64 (d * 61) + 0) < (M.length : Int) then (if li.length ≤ 1000000 then fl1 en x sh n k (M.set (wrap64 (wrap64 (d * 61) + 0)).toNat 0) (li ++ [wrap64 (wrap64 (d * 61) + 0)]) (wrap64 (d + 1)) else none) else none) else none) else fl1 en x sh n k M li (wrap64 (d + 1))) else some (M,li)
/-- The speeds before a state. -/
def fl3 (l0 : List S39) (l1 : List S45) (tr en de ac x i w d : Int) : Nat → List Int → List Int → Int → Option (List Int × List Int)
 | 0,_,_,_ => none
 | k + 1,M,li,v => if v ≤ 60 then (if 0 ≤ wrap64 (wrap64 (d * 61) + v) then (if wrap64 (wrap64 (d * 61) + v) < (M.length : Int) then (if rd M (wrap64 (wrap64 (d * 61) + v)) < 0 then ((spec_l2rate.f k l0 l1 tr en de (wrap64 (x + d))).bind fun rt => ((spec_l2less.f v rt).bind fun lo => (if w ≥ lo then (if w ≤ hiV ac v then (if 0 ≤ i then (if i < (li.length : Int) then (if 0 ≤ rd li i then (if rd li i < (M.length : Int) then (if li.length ≤ 1000000 then fl3 l0 l1 tr en de ac x i w d k (M.set (wrap64 (wrap64 (d * 61) + v)).toNat (wrap64 (rd M (rd li i) + 1))) (li ++ [wrap64 (wrap64 (d * 61) + v)]) (wrap64 (v + 1)) else none) else none) else none) else none) else none) else fl3 l0 l1 tr en de ac x i w d k M li (wrap64 (v + 1))) else fl3 l0 l1 tr en de ac x i w d k M li (wrap64 (v + 1))))) else fl3 l0 l1 tr en de ac x i w d k M li (wrap64 (v + 1))) else none) else none) else some (M,li)
/-- Back from state to state. -/
def fl2 (l0 : List S39) (l1 : List S45) (tr en de ac x : Int) : Nat → List Int → List Int → Int → Option (List Int)
 | 0,_,_,_ => none
 | k + 1,M,li,i => if i < (li.length : Int) then (if 0 ≤ i then (if wrap64 (wrap64 (Int.tdiv (rd li i) 61) - Int.tmod (rd li i) 61) < 0 then fl2 l0 l1 tr en de ac x k M li (wrap64 (i + 1)) else ((spec_l3may.f k l0 l1 tr en de (wrap64 (x + wrap64 (wrap64 (Int.tdiv (rd li i) 61) - Int.tmod (rd li i) 61))) (Int.tmod (rd li i) 61)).bind fun m => (if m = true then ((fl3 l0 l1 tr en de ac x i (Int.tmod (rd li i) 61) (wrap64 (wrap64 (Int.tdiv (rd li i) 61) - Int.tmod (rd li i) 61)) k M li 0).bind fun p => fl2 l0 l1 tr en de ac x k p.1 p.2 (wrap64 (i + 1))) else fl2 l0 l1 tr en de ac x k M li (wrap64 (i + 1))))) else none) else some M
def spec_fill.f (k : Nat) (l0 : List S39) (l1 : List S45) (tr en de ac x sh : Int) : Option (List Int) :=
 if 0 < wrap64 (wrap64 (wrap64 (en - x) + 1) * 61) then (if wrap64 (wrap64 (wrap64 (en - x) + 1) * 61) ≤ 1000000 then ((fl1 en x sh (wrap64 (en - x)) k (List.replicate (wrap64 (wrap64 (wrap64 (en - x) + 1) * 61)).toNat (-1)) [] 0).bind fun p => fl2 l0 l1 tr en de ac x k p.1 p.2 0) else none) else none

def spec_fill.T12 : Bool × List (List Nat × List Nat):=(true,[([],[]),([0],[0]),([1],[1]),([2],[2]),([],[]),([],[]),([4,5],[4,5]),([3,6,0,1,2,3,4,5,6],[3,6]),([7,6,0,1,2,3,4,5,6],[7])])
def spec_fill.B12 : List Nat:=[0,1,3,7,0,0,48,127,255]
theorem spec_fill.tab12 : rtab .any (opsOf Try.f49 12) = spec_fill.T12:=by kernel_rfl
theorem spec_fill.bits12 : waitsOk spec_fill.T12.2 spec_fill.B12 = true:=by kernel_rfl
def spec_fill.T19 : Bool × List (List Nat × List Nat):=(true,[([],[]),([0],[0]),([1],[1]),([2],[2]),([3,2],[2,3]),([4,2],[2,4]),([5,2],[2,5]),([2],[2]),([7,2],[2,7]),([8,2],[2,8]),([9,2],[2,9]),([2],[2]),([10,11,2],[2,10,11]),([2],[2]),([6,12,13,2,2],[2,6,12,13]),([14,2],[2,14]),([2,15],[2,15])])
def spec_fill.B19 : List Nat:=[0,1,3,7,15,31,63,7,135,391,903,7,3975,7,16383,32767,65535]
theorem spec_fill.tab19 : rtab .any (opsOf Try.f49 19) = spec_fill.T19:=by kernel_rfl
theorem spec_fill.bits19 : waitsOk spec_fill.T19.2 spec_fill.B19 = true:=by kernel_rfl
def spec_fill.T25 : Bool × List (List Nat × List Nat):=(true,[([],[]),([0],[0]),([1],[1]),([2],[2]),([],[]),([],[]),([5],[5]),([6],[6]),([7],[7]),([],[]),([],[]),([9,10],[9,10]),([11],[11]),([8,12],[8,12]),([13],[13]),([14],[14]),([3,4,0,1,2,3,4,5,6,7,8,9,10,11,12,13,14,15],[3,4]),([16,15,0,1,2,3,4,5,6,7,8,9,10,11,12,13,14,15],[15,16])])
def spec_fill.B25 : List Nat:=[0,1,3,7,0,0,32,96,224,0,0,1536,3584,8160,16352,32736,65535,131071]
theorem spec_fill.tab25 : rtab .any (opsOf Try.f49 25) = spec_fill.T25:=by kernel_rfl
theorem spec_fill.bits25 : waitsOk spec_fill.T25.2 spec_fill.B25 = true:=by kernel_rfl
set_option maxHeartbeats 80000000 in
set_option maxRecDepth 100000 in
theorem spec_fill.calls (k : Nat) (s : GSt) (g : Nat) (u : Value) (r : List Int) (w0 w : World) (st : w.heap[g]? = some (.cells #[.slice s.A0 s.l0.length s.c0,.slice s.A1 s.l1.length s.c1,.int .i64 s.tr,.int .i64 s.en,.int .i64 s.de,.int .i64 s.ac,.int .i64 s.x,.int .i64 s.sh,u] 72 (0,0))) (hr : GRd s w0) (hB : Below w0.heap.size w0 w) (hg0 : w0.heap.size ≤ g) (h : spec_fill.f k s.l0 s.l1 s.tr s.en s.de s.ac s.x s.sh = some r) :
  Calls Try.prog 49 #[.pointer (some ⟨g,0,none⟩)] w fun e w' => e = .returned (.tuple #[])∧∃ gl cl n vl li,FE s w0 w w' g gl cl n r vl li:=by
 have hu26:=Try.underlying26;have hu72:=Try.underlying72;have ST:=Am st;clear st;have HR:=Am hr;clear hr;have HB:=Am hB;clear hB;have HG0:=Am hg0;clear hg0;have HBw:=Am (Below.refl w.heap.size w);have H:=h;clear h;unfold spec_fill.f at H
 by_cases c1 : 0 < wrap64 (wrap64 (wrap64 (s.en - s.x) + 1) * 61)
 case neg => rw [if_neg c1] at H;cases H
 rw [if_pos c1] at H
 by_cases c2 : wrap64 (wrap64 (wrap64 (s.en - s.x) + 1) * 61) ≤ 1000000
 case neg => rw [if_neg c2] at H;cases H
 rw [if_pos c2] at H
 obtain ⟨n,hn⟩ : ∃ n : Nat,wrap64 (wrap64 (wrap64 (s.en - s.x) + 1) * 61) = (n : Int):=⟨(wrap64 (wrap64 (wrap64 (s.en - s.x) + 1) * 61)).toNat,by omega⟩
 rw [hn] at c1 c2 H;rw [Int.toNat_natCast] at H;have HN:=Am hn;have C1:=Am (show 0 < n by omega);have C2:=Am (show n ≤ 1000000 by omega);clear c1 c2 hn;replace H:=Option.bind_eq_some_iff.mp H;obtain ⟨⟨M1,li1⟩,A10,H⟩:=H;have A1:=Am A10;clear A10;have H':=Am H;clear H;have hcg3 : w.cell? ⟨g,3,none⟩ = some (.int .i64 s.en):=(kC ST.out 3).trans rfl;have hcg6 : w.cell? ⟨g,6,none⟩ = some (.int .i64 s.x):=(kC ST.out 6).trans rfl;have hcg8 : w.cell? ⟨g,8,none⟩ = some (u):=(kC ST.out 8).trans rfl;have hfg3:=kF ST.out 3;have hfg6:=kF ST.out 6;have hfg8:=kF ST.out 8
 go_enter Try.func49,Try.ntmps49
 go_wp2
 go_quiet (fail)
 go_wp2_with (first|((with_reducible refine gate_dst (N:=25) rfl ?_);refine Kd.R_make (Kd.int .i64) (w0:=w) w.heap.size 3 rfl (N:=25) rfl 27 _ _ rfl (n : Int) (congrArg (Value.int .i64) HN.out) (congrArg (Value.int .i64) HN.out) Try.underlying27 (.int .i64 0) 8 finfo3 rfl (by decide) (by omega) 0 (ok:=fun _ => True) (okp:=fun _ => True) rfl (fun _ hk => hk) trivial (by have:=C1.out;omega) (by have:=C2.out;omega) ?aB ?aS ?_;(case aB => repeat (first|(with_reducible first|exact HBw.out|apply bA|apply bN|apply bD)|exact HBw.out));(case aS => exact Nat.le_refl _);intro v1 w1 ho hb hg_ hat;rw [Int.toNat_natCast] at ho;obtain ⟨gl,cl,e1,hgl,hgs,hcc⟩:=Kd.R_form ho (by rw [List.length_replicate];have:=C1.out;omega);rw [List.length_replicate] at e1;subst e1;have HO:=Am ho;have HGL:=Am hgl;have HB1:=Am hb;have ST1:=Am (blk_below (g:=g) (o:=.cells #[.slice s.A0 s.l0.length s.c0,.slice s.A1 s.l1.length s.c1,.int .i64 s.tr,.int .i64 s.en,.int .i64 s.de,.int .i64 s.ac,.int .i64 s.x,.int .i64 s.sh,u] 72 (0,0)) ST.out hb);have hc1g8 : w1.cell? ⟨g,8,none⟩ = some u:=(kC ST1.out 8).trans rfl;have hf1g8:=kF ST1.out 8;clear hg_ hat hgl hgs hcc ho hb))
 go_loopg [33] n (fun kq v33 w' => ∃ (i : Int),v33 = .int .i64 i∧As (0 ≤ i)∧As (i + kq = n)∧As (FE s w0 w w' g gl cl n (fillV i.toNat n) (.slice none 0 0) []))
 case atStart => exact ⟨0,by first|rfl|(simp;done)|(simp [*];done),⟨by omega⟩,⟨by omega⟩,⟨by rw [show (0 : Int).toNat = 0 from rfl,fillV_zero];exact FE.start ST1.out HO.out HB1.out HB.out HG0.out (blk_lt ST.out) HGL.out HR.out⟩⟩
 case round =>
  obtain ⟨i,rfl,I1,I2,HE⟩:=hrel
  by_cases c : i < (n : Int)
  case pos =>
   have cb0 : decide (i < (n : Int)) = true:=decide_eq_true c;have hcg8 : wr.cell? ⟨g,8,none⟩ = some (.slice (some ⟨gl,0,none⟩) n cl):=(kC HE.out.st 8).trans rfl;have hfg8:=kF HE.out.st 8;obtain ⟨hx5_0,hf5_0⟩:=Kd.R_celln 0 HE.out.lf i I1.out c;have p5 : (0 ≤ (i : Int)) = True:=eq_true (I1.out);have q5 : ((i : Int) < (n : Int)) = True:=eq_true (c);have C:=Am c;clear c
   go_wp2_with (first|((with_reducible refine gate_store (t:=3) (p:=41) rfl ?_);refine store_event (t:=3) (p:=41) (v:=?vo) (w1:=(wr.setCell ⟨gl,(i : Int).toNat,none⟩ (.int .i64 (-1)))) ?hg ?ho ?hn ?hr ?_;(case ho => rfl);(case hg => rfl);(case hn => rfl);(case hr => first|(go_simp;done)|(go_simp;rfl));intro w2 hw;have n0_:=Am (by rw [hw];exact FE.set (by (with_reducible repeat (first|refine FE.drewN ?_ _|refine FE.drew ?_|refine FE.alloc ?_ _));exact HE.out) (i) ((-1)) : FE s w0 w w2 g gl cl n ((fillV i.toNat n).set (i : Int).toNat (-1)) (.slice none 0 0) []);clear HE;have HE:=n0_;clear n0_ hw))
   go_roundg (gk - 1)
   case measure => have:=I2.out;have:=C.out;omega
   case rel => exact ⟨wrap64 (i + 1),by first|rfl|(simp;done)|(simp [*];done),⟨by have:=I1.out;have:=C.out;have:=C2.out;unfold wrap64;omega⟩,⟨by have:=I1.out;have:=I2.out;have:=C.out;have:=C2.out;unfold wrap64;omega⟩,⟨by rw [show (wrap64 (i + 1)).toNat = i.toNat + 1 from by have:=I1.out;have:=C.out;have:=C2.out;unfold wrap64;omega,← fillV_set (by have:=I1.out;have:=C.out;omega)];exact HE.out⟩⟩
  case neg =>
   have cb0 : decide (i < (n : Int)) = false:=decide_eq_false c;have HE1:=Am (show FE s w0 w wr g gl cl n (List.replicate n (-1)) (.slice none 0 0) [] from by have h:=HE.out;rw [show i.toNat = n from by have:=I1.out;have:=I2.out;omega,fillV_all] at h;exact h);clear HE I1 I2 c;have HE:=HE1;clear HE1;go_wp2
   go_loopg [4,5] k (fun kq v4 v5 w' => ∃ (d : Int) (Li li : List Int),v5 = .int .i64 d∧As (fl1 s.en s.x s.sh (wrap64 (s.en - s.x)) kq Li li d = some (M1,li1))∧As (kq ≤ k)∧As (FE s w0 w w' g gl cl n Li v4 li))
   case atStart => exact ⟨0,List.replicate n (-1),[],by first|rfl|(simp;done)|(simp [*];done),A1,⟨Nat.le_refl _⟩,⟨by (with_reducible repeat (first|refine FE.drewN ?_ _|refine FE.drew ?_|refine FE.alloc ?_ _));exact HE.out⟩⟩
   case round =>
    clear A1 cb0;obtain ⟨d,Li,li,rfl,HA,HK1,HE⟩:=hrel
    cases gk with
    | zero => exact absurd HA.out (by simp [fl1])
    | succ k1 =>
    have H:=HA.out;clear HA;simp only [fl1] at H;rw [HE.out.nn] at H
    by_cases c3 : d ≤ (wrap64 (s.en - s.x))
    case pos =>
     rw [if_pos c3] at H;have c3b0 : decide (d ≤ (wrap64 (s.en - s.x))) = true:=decide_eq_true c3;clear c3
     by_cases c4 : homeV s.x s.en s.sh d 0 = true
     case pos =>
      rw [if_pos c4] at H;have C4:=Am c4;clear c4
      obtain ⟨ix,hix⟩ : ∃ j : Int,wrap64 (wrap64 (d * 61) + 0) = j:=⟨_,rfl⟩
      rw [hix] at H;have HX:=Am hix;clear hix
      by_cases c5 : 0 ≤ ix
      case neg => rw [if_neg c5] at H;cases H
      rw [if_pos c5] at H
      by_cases c6 : ix < (n : Int)
      case neg => rw [if_neg c6] at H;cases H
      rw [if_pos c6] at H
      by_cases c7 : li.length ≤ 1000000
      case neg => rw [if_neg c7] at H;cases H
      rw [if_pos c7] at H;have C5:=Am c5;have C6:=Am c6;have C7:=Am c7;have p5 : (0 ≤ ix) = True:=eq_true c5;have q5 : (ix < (n : Int)) = True:=eq_true c6;clear c5 c6 c7;have H':=Am H;clear H
      go_wp2_with (first|((with_reducible refine gate_callee (f:=48) rfl ?_);(try (refine gate_guard (by rfl) ?_;dsimp only));refine goesL_ (some 50) rfl rfl Try.func48 (by kernel_rfl) rfl #[.pointer (some ⟨g,0,none⟩),.int .i64 d,.int .i64 0] rfl lA ?_;(with_reducible refine (l4_home.calls s g (.slice (some ⟨gl,0,none⟩) n cl) d true _ (FE.st (by (with_reducible repeat (first|refine FE.drewN ?_ _|refine FE.drew ?_|refine FE.alloc ?_ _));exact HE.out)) C4.out).mono ?_);rintro e w3 ⟨rfl,hb⟩;refine ⟨_,rfl,?_⟩;have n0_:=Am (FE.below (by (with_reducible repeat (first|refine FE.drewN ?_ _|refine FE.drew ?_|refine FE.alloc ?_ _));exact HE.out) hb);clear HE;have HE:=n0_;clear n0_ hb))
      have n0_:=Am (FE.drew HE.out);clear HE;have HE:=n0_;clear n0_;refine start_ (n:=9) (S:=fun w' => w'.cell? ⟨g,8,none⟩ = some (.slice (some ⟨gl,0,none⟩) n cl)) (ds:=[8]) #[false,false,false,false,false,false,false,false,false] (by kernel_rfl) rfl rfl ((kC HE.out.st 8).trans rfl) (fun hHeld => ?_);refine with_tabW spec_fill.tab12 spec_fill.bits12 (fun HT_ HW_ => ?_);generalize w3.drew = w7 at HE hHeld ⊢;refine pure_ (i:=0) (N:=some 51) (v:=?_) (a':=?_) #[true,false,false,false,false,false,false,false,false] rfl rfl (any_of HT_.out (by kernel_rfl)) (fun _ _ _ h => h) (Or.inl ⟨by rfl,?_⟩) ?_ ?_;rotate_left
      ·intro w'
       go_simp
       with_reducible rfl
      rotate_left
      ·simp only [Act.put,pS]
       rfl
      refine pure_ (i:=1) (N:=some 52) (v:=?_) (a':=?_) #[true,true,false,false,false,false,false,false,false] rfl rfl (any_of HT_.out (by kernel_rfl)) (fun _ _ _ h => h) (Or.inl ⟨by rfl,?_⟩) ?_ ?_;rotate_left
      ·intro w'
       go_simp
       with_reducible rfl
      rotate_left
      ·simp only [Act.put,pS]
       rfl
      refine pure_ (i:=2) (N:=some 53) (v:=?_) (a':=?_) #[true,true,true,false,false,false,false,false,false] rfl rfl (any_of HT_.out (by kernel_rfl)) (fun _ _ _ h => h) (Or.inl ⟨by rfl,?_⟩) ?_ ?_;rotate_left
      ·intro w'
       go_simp
       with_reducible rfl
      rotate_left
      ·simp only [Act.put,pS]
       rfl
      refine pure_ (i:=4) (N:=some 55) (v:=?_) (a':=?_) #[true,true,true,false,true,false,false,false,false] rfl rfl (any_of HT_.out (by kernel_rfl)) (fun _ _ _ h => h) (Or.inl ⟨by rfl,?_⟩) ?_ ?_;rotate_left
      ·intro w'
       go_simp
       with_reducible rfl
      rotate_left
      ·simp only [Act.put,pS]
       rfl
      refine pure_ (i:=5) (N:=some 56) (v:=?_) (a':=?_) #[true,true,true,false,true,true,false,false,false] rfl rfl (any_of HT_.out (by kernel_rfl)) (fun _ _ _ h => h) (Or.inl ⟨by rfl,?_⟩) ?_ ?_;rotate_left
      ·intro w'
       go_simp
       with_reducible rfl
      rotate_left
      ·simp only [Act.put,pS]
       rfl
      refine take_ (i:=3) (N:=some 54) (v:=?_) (a':=?_) #[true,true,true,true,true,true,false,false,false] rfl rfl (take_ofW HT_.out HW_.out (by kernel_rfl)) (fun _ _ _ h => h) (Or.inl ⟨by rfl,?_⟩) hHeld ?_ ?_;rotate_left
      ·intro w' s0
       go_simp
       with_reducible rfl
      rotate_left
      ·simp only [Act.put,pS]
       rfl
      refine one_ (i:=6) (N:=some 57) #[true,true,true,true,true,true,true,false,false] rfl rfl (one_of HT_.out (by kernel_rfl)) (by decide) (fun K hK => ?_);refine goes_ Try.func50 (by kernel_rfl) rfl #[.pointer (some ⟨g,0,none⟩),.int .i64 d,.int .i64 0] (by rfl) rfl rfl lA ?_
      with_reducible refine (l4_at.calls (.pointer (some ⟨g,0,none⟩)) d 0 ix _ HX.out).mono ?_
      rintro e w8 ⟨rfl,hb⟩;refine ⟨_,rfl,?_⟩;have n0_:=Am (FE.below HE.out hb);clear HE;have HE:=n0_;clear n0_ hb;obtain ⟨hx5_0,hf5_0⟩:=Kd.R_celln 0 HE.out.lf ix C5.out C6.out;refine hK.out _ _ ((kC HE.out.st 8).trans rfl) (fun hHeld => ?_);clear hK K;refine norm_ (a':=?_) ?_ ?_;rotate_left
      ·show Act.put _ (some 57) _ = _
       simp only [Act.put,pS]
       rfl
      refine pure_ (i:=7) (N:=some 58) (v:=?_) (a':=?_) #[true,true,true,true,true,true,true,true,false] rfl rfl (any_of HT_.out (by kernel_rfl)) (fun _ _ _ h => h) (Or.inl ⟨by rfl,?_⟩) ?_ ?_;rotate_left
      ·intro w'
       go_simp
       with_reducible rfl
      rotate_left
      ·simp only [Act.put,pS]
       rfl
      refine last_ (i:=8) (N:=none) #[true,true,true,true,true,true,true,true,true] rfl rfl (one_of HT_.out (by kernel_rfl)) (by decide) (fun K hK => ?_);refine skip_ (w1:=?_) (by rfl) rfl ?_ ?_;rotate_left
      ·go_simp
       rfl
      refine hK.out _ _ ?_;clear hK K;refine done_ (done_of HT_.out (by kernel_rfl)) ?_;have n0_:=Am (FE.set HE.out ix 0);clear HE;have HE:=n0_;clear n0_ hx5_0 hf5_0;generalize w8.setCell ⟨gl,ix.toNat,none⟩ (.int .i64 0) = w9 at HE ⊢;obtain ⟨Ao,co,eo⟩:=Kd.R_slice HE.out.ln;subst eo
      go_wp2_with (first|((with_reducible refine gate_callee (f:=50) rfl ?_);(try (refine gate_guard (by rfl) ?_;dsimp only));refine goesL_ (some 62) rfl rfl Try.func50 (by kernel_rfl) rfl #[.pointer (some ⟨g,0,none⟩),.int .i64 d,.int .i64 0] rfl lA ?_;(with_reducible refine (l4_at.calls (.pointer (some ⟨g,0,none⟩)) d 0 ix _ HX.out).mono ?_);rintro e w10 ⟨rfl,hb⟩;refine ⟨_,rfl,?_⟩;have n0_:=Am (FE.below (by (with_reducible repeat (first|refine FE.drewN ?_ _|refine FE.drew ?_|refine FE.alloc ?_ _));exact HE.out) hb);clear HE;have HE:=n0_;clear n0_ hb)|((with_reducible refine gate_builtin (b:=.append) (xs:=#[.tmp 59,.tmp 63]) rfl ?_);at_builtin;refine Kd.R_append (Kd.int .i64) (w0:=?w0_1) w.heap.size rfl (.tmp 59) (.tmp 63) 27 3 (.int .i64 0) 8 rfl Try.underlying27 finfo3 rfl (by decide) (by omega) (.slice Ao li.length co) li (ix) [.int .i64 (ix)] (fun k => k ≠ gl) (fun _ => False) rfl rfl ?aP (fun _ hk => hk.elim) ?aF ?aO ?aB ?aS ?aL ?_;(case aP => exact rfl);(case aB => exact (Below.refl _ _));(case aF => exact FE.fresh (by (with_reducible repeat (first|refine FE.drewN ?_ _|refine FE.drew ?_|refine FE.alloc ?_ _));exact HE.out));(case aO => exact FE.ln (by (with_reducible repeat (first|refine FE.drewN ?_ _|refine FE.drew ?_|refine FE.alloc ?_ _));exact HE.out));(case aS => exact FE.hw (by (with_reducible repeat (first|refine FE.drewN ?_ _|refine FE.drew ?_|refine FE.alloc ?_ _));exact HE.out));(case aL => have:=C7.out;omega);intro v12 w11 ho hb hg hat;have n0_:=Am (FE.app (by (with_reducible repeat (first|refine FE.drewN ?_ _|refine FE.drew ?_|refine FE.alloc ?_ _));exact HE.out) ho hb hg : FE s w0 w w11 g gl cl n (Li.set ix.toNat 0) v12 (li ++ [ix]));clear HE;have HE:=n0_;clear n0_ ho hb hg hat))
      go_roundg k1
      case measure => omega
      case rel => exact ⟨wrap64 (d + 1),Li.set ix.toNat 0,li ++ [ix],by first|rfl|(simp;done)|(simp [*];done),H',⟨by have:=HK1.out;omega⟩,⟨by (with_reducible repeat (first|refine FE.drewN ?_ _|refine FE.drew ?_|refine FE.alloc ?_ _));exact HE.out⟩⟩
     case neg =>
      rw [if_neg c4] at H;have C4:=Am (Bool.eq_false_iff.mpr c4);clear c4;have H':=Am H;clear H
      go_wp2_with (first|((with_reducible refine gate_callee (f:=48) rfl ?_);(try (refine gate_guard (by rfl) ?_;dsimp only));refine goesL_ (some 50) rfl rfl Try.func48 (by kernel_rfl) rfl #[.pointer (some ⟨g,0,none⟩),.int .i64 d,.int .i64 0] rfl lA ?_;(with_reducible refine (l4_home.calls s g (.slice (some ⟨gl,0,none⟩) n cl) d false _ (FE.st (by (with_reducible repeat (first|refine FE.drewN ?_ _|refine FE.drew ?_|refine FE.alloc ?_ _));exact HE.out)) C4.out).mono ?_);rintro e w3 ⟨rfl,hb⟩;refine ⟨_,rfl,?_⟩;have n0_:=Am (FE.below (by (with_reducible repeat (first|refine FE.drewN ?_ _|refine FE.drew ?_|refine FE.alloc ?_ _));exact HE.out) hb);clear HE;have HE:=n0_;clear n0_ hb))
      go_roundg k1
      case measure => omega
      case rel => exact ⟨wrap64 (d + 1),Li,li,by first|rfl|(simp;done)|(simp [*];done),H',⟨by have:=HK1.out;omega⟩,⟨by (with_reducible repeat (first|refine FE.drewN ?_ _|refine FE.drew ?_|refine FE.alloc ?_ _));exact HE.out⟩⟩
    case neg =>
     rw [if_neg c3] at H;have c3b0 : decide (d ≤ (wrap64 (s.en - s.x))) = false:=decide_eq_false c3;clear c3;simp only [Option.some.injEq,Prod.mk.injEq] at H;obtain ⟨rfl,rfl⟩:=H;go_wp2
     go_loopg [4,6] k (fun kq v4 v6 w' => ∃ (i : Int) (Li li : List Int),v6 = .int .i64 i∧As (fl2 s.l0 s.l1 s.tr s.en s.de s.ac s.x kq Li li i = some r)∧As (kq ≤ k)∧As (FE s w0 w w' g gl cl n Li v4 li))
     case atStart => exact ⟨0,_,_,by first|rfl|(simp;done)|(simp [*];done),H',⟨Nat.le_refl _⟩,⟨by (with_reducible repeat (first|refine FE.drewN ?_ _|refine FE.drew ?_|refine FE.alloc ?_ _));exact HE.out⟩⟩
     case round =>
      clear H' HE HK1 c3b0;obtain ⟨i,Li,li,rfl,HA,HK1,HE⟩:=hrel
      cases gk with
      | zero => exact absurd HA.out (by simp [fl2])
      | succ k1 =>
      have H:=HA.out;clear HA;simp only [fl2] at H
      by_cases c3 : i < (li.length : Int)
      case pos =>
       rw [if_pos c3] at H
       by_cases c4 : 0 ≤ i
       case neg => rw [if_neg c4] at H;cases H
       rw [if_pos c4] at H;obtain ⟨go,co,eo,hgb,hgl,hgc⟩:=Kd.R_form HE.out.ln (by omega);subst eo;clear hgb hgl hgc;obtain ⟨hq_0,hqf_0⟩:=Kd.R_celln 0 HE.out.ln i c4 c3
       obtain ⟨q,hq⟩ : ∃ j : Int,rd li i = j:=⟨_,rfl⟩
       rw [show rdOf 0 li i = rd li i from rfl,hq] at hq_0;rw [hq] at H;have HQ:=Am hq;clear hq;have c3b0 : decide (i < (li.length : Int)) = true:=decide_eq_true c3;have C3:=Am c3;have C4:=Am c4;have p5 : (0 ≤ i) = True:=eq_true c4;have q5 : (i < (li.length : Int)) = True:=eq_true c3;clear c3 c4
       by_cases c6 : wrap64 (wrap64 (Int.tdiv q 61) - Int.tmod q 61) < 0
       case pos =>
        rw [if_pos c6] at H;have H':=Am H;clear H;have c6b0 : decide (wrap64 (wrap64 (Int.tdiv q 61) - Int.tmod q 61) < 0) = true:=decide_eq_true c6;clear c6;go_wp2
        go_quiet (fail)
        go_wp2
        go_roundg k1
        case measure => omega
        case rel => exact ⟨wrap64 (i + 1),Li,li,by first|rfl|(simp;done)|(simp [*];done),H',⟨by have:=HK1.out;omega⟩,⟨by (with_reducible repeat (first|refine FE.drewN ?_ _|refine FE.drew ?_|refine FE.alloc ?_ _));exact HE.out⟩⟩
       case neg =>
        rw [if_neg c6] at H;have c6b0 : decide (wrap64 (wrap64 (Int.tdiv q 61) - Int.tmod q 61) < 0) = false:=decide_eq_false c6;clear c6;replace H:=Option.bind_eq_some_iff.mp H;obtain ⟨m,AM0,H⟩:=H;have AM:=Am AM0;clear AM0
        cases m with
        | false =>
         rw [if_neg (by decide)] at H;have H':=Am H;clear H;go_wp2;have n0_:=Am (FE.drew HE.out);clear HE;have HE:=n0_;clear n0_;refine start_ (n:=17) (S:=fun w' => w'.cell? ⟨g,0,none⟩ = some (.slice s.A0 s.l0.length s.c0)∧w'.cell? ⟨g,1,none⟩ = some (.slice s.A1 s.l1.length s.c1)∧w'.cell? ⟨g,2,none⟩ = some (.int .i64 s.tr)∧w'.cell? ⟨g,3,none⟩ = some (.int .i64 s.en)∧w'.cell? ⟨g,4,none⟩ = some (.int .i64 s.de)∧w'.cell? ⟨g,6,none⟩ = some (.int .i64 s.x)) (ds:=[]) #[false,false,false,false,false,false,false,false,false,false,false,false,false,false,false,false,false] (by kernel_rfl) rfl rfl ⟨(kC HE.out.st 0).trans rfl,(kC HE.out.st 1).trans rfl,(kC HE.out.st 2).trans rfl,(kC HE.out.st 3).trans rfl,(kC HE.out.st 4).trans rfl,(kC HE.out.st 6).trans rfl⟩ (fun hHeld => ?_);refine with_tabW spec_fill.tab19 spec_fill.bits19 (fun HT_ HW_ => ?_);generalize wr.drew = w7 at HE hHeld ⊢;refine pure_ (i:=0) (N:=some 83) (v:=?_) (a':=?_) #[true,false,false,false,false,false,false,false,false,false,false,false,false,false,false,false,false] rfl rfl (any_of HT_.out (by kernel_rfl)) (fun _ _ _ h => h) (Or.inl ⟨by rfl,?_⟩) ?_ ?_;rotate_left
         ·intro w'
          go_simp
          with_reducible rfl
         rotate_left
         ·simp only [Act.put,pS]
          rfl
         refine pure_ (i:=1) (N:=some 84) (v:=?_) (a':=?_) #[true,true,false,false,false,false,false,false,false,false,false,false,false,false,false,false,false] rfl rfl (any_of HT_.out (by kernel_rfl)) (fun _ _ _ h => h) (Or.inl ⟨by rfl,?_⟩) ?_ ?_;rotate_left
         ·intro w'
          go_simp
          with_reducible rfl
         rotate_left
         ·simp only [Act.put,pS]
          rfl
         refine pure_ (i:=2) (N:=some 85) (v:=?_) (a':=?_) #[true,true,true,false,false,false,false,false,false,false,false,false,false,false,false,false,false] rfl rfl (any_of HT_.out (by kernel_rfl)) (fun _ _ _ h => h) (Or.inl ⟨by rfl,?_⟩) ?_ ?_;rotate_left
         ·intro w'
          go_simp
          with_reducible rfl
         rotate_left
         ·simp only [Act.put,pS]
          rfl
         refine pure_ (i:=3) (N:=some 86) (v:=?_) (a':=?_) #[true,true,true,true,false,false,false,false,false,false,false,false,false,false,false,false,false] rfl rfl (any_of HT_.out (by kernel_rfl)) (fun _ _ _ h => h) (Or.inl ⟨by rfl,?_⟩) ?_ ?_;rotate_left
         ·intro w'
          go_simp
          with_reducible rfl
         rotate_left
         ·simp only [Act.put,pS]
          rfl
         refine pure_ (i:=4) (N:=some 87) (v:=?_) (a':=?_) #[true,true,true,true,true,false,false,false,false,false,false,false,false,false,false,false,false] rfl rfl (any_of HT_.out (by kernel_rfl)) (fun _ _ _ h => h) (Or.inl ⟨by rfl,?_⟩) ?_ ?_;rotate_left
         ·intro w'
          go_simp
          with_reducible rfl
         rotate_left
         ·simp only [Act.put,pS]
          rfl
         refine pure_ (i:=5) (N:=some 88) (v:=?_) (a':=?_) #[true,true,true,true,true,true,false,false,false,false,false,false,false,false,false,false,false] rfl rfl (any_of HT_.out (by kernel_rfl)) (fun _ _ _ h => h) (Or.inl ⟨by rfl,?_⟩) ?_ ?_;rotate_left
         ·intro w'
          go_simp
          with_reducible rfl
         rotate_left
         ·simp only [Act.put,pS]
          rfl
         refine pure_ (i:=7) (N:=some 90) (v:=?_) (a':=?_) #[true,true,true,true,true,true,false,true,false,false,false,false,false,false,false,false,false] rfl rfl (any_of HT_.out (by kernel_rfl)) (fun _ _ _ h => h) (Or.inl ⟨by rfl,?_⟩) ?_ ?_;rotate_left
         ·intro w'
          go_simp
          with_reducible rfl
         rotate_left
         ·simp only [Act.put,pS]
          rfl
         refine pure_ (i:=8) (N:=some 91) (v:=?_) (a':=?_) #[true,true,true,true,true,true,false,true,true,false,false,false,false,false,false,false,false] rfl rfl (any_of HT_.out (by kernel_rfl)) (fun _ _ _ h => h) (Or.inl ⟨by rfl,?_⟩) ?_ ?_;rotate_left
         ·intro w'
          go_simp
          with_reducible rfl
         rotate_left
         ·simp only [Act.put,pS]
          rfl
         refine pure_ (i:=9) (N:=some 92) (v:=?_) (a':=?_) #[true,true,true,true,true,true,false,true,true,true,false,false,false,false,false,false,false] rfl rfl (any_of HT_.out (by kernel_rfl)) (fun _ _ _ h => h) (Or.inl ⟨by rfl,?_⟩) ?_ ?_;rotate_left
         ·intro w'
          go_simp
          with_reducible rfl
         rotate_left
         ·simp only [Act.put,pS]
          rfl
         refine pure_ (i:=11) (N:=some 94) (v:=?_) (a':=?_) #[true,true,true,true,true,true,false,true,true,true,false,true,false,false,false,false,false] rfl rfl (any_of HT_.out (by kernel_rfl)) (fun _ _ _ h => h) (Or.inl ⟨by rfl,?_⟩) ?_ ?_;rotate_left
         ·intro w'
          go_simp
          with_reducible rfl
         rotate_left
         ·simp only [Act.put,pS]
          rfl
         refine pure_ (i:=13) (N:=some 96) (v:=?_) (a':=?_) #[true,true,true,true,true,true,false,true,true,true,false,true,false,true,false,false,false] rfl rfl (any_of HT_.out (by kernel_rfl)) (fun _ _ _ h => h) (Or.inl ⟨by rfl,?_⟩) ?_ ?_;rotate_left
         ·intro w'
          go_simp
          with_reducible rfl
         rotate_left
         ·simp only [Act.put,pS]
          rfl
         refine take_ (i:=6) (N:=some 89) (v:=?_) (a':=?_) #[true,true,true,true,true,true,true,true,true,true,false,true,false,true,false,false,false] rfl rfl (take_ofW HT_.out HW_.out (by kernel_rfl)) (fun _ _ _ h => h) (Or.inl ⟨by rfl,?_⟩) hHeld ?_ ?_;rotate_left
         ·rintro w' ⟨s0,s1,s2,s3,s4,s5⟩
          go_simp
          with_reducible rfl
         rotate_left
         ·simp only [Act.put,pS]
          rfl
         refine take_ (i:=10) (N:=some 93) (v:=?_) (a':=?_) #[true,true,true,true,true,true,true,true,true,true,true,true,false,true,false,false,false] rfl rfl (take_ofW HT_.out HW_.out (by kernel_rfl)) (fun _ _ _ h => h) (Or.inl ⟨by rfl,?_⟩) hHeld ?_ ?_;rotate_left
         ·rintro w' ⟨s0,s1,s2,s3,s4,s5⟩
          go_simp
          with_reducible rfl
         rotate_left
         ·simp only [Act.put,pS]
          rfl
         refine pure_ (i:=12) (N:=some 95) (v:=?_) (a':=?_) #[true,true,true,true,true,true,true,true,true,true,true,true,true,true,false,false,false] rfl rfl (any_of HT_.out (by kernel_rfl)) (fun _ _ _ h => h) (Or.inl ⟨by rfl,?_⟩) ?_ ?_;rotate_left
         ·intro w'
          go_simp
          with_reducible rfl
         rotate_left
         ·simp only [Act.put,pS]
          rfl
         refine one_ (i:=14) (N:=some 97) #[true,true,true,true,true,true,true,true,true,true,true,true,true,true,true,false,false] rfl rfl (one_of HT_.out (by kernel_rfl)) (by decide) (fun K hK => ?_);refine goes_ Try.func47 (by kernel_rfl) rfl #[.agg #[.slice s.A0 s.l0.length s.c0,.slice s.A1 s.l1.length s.c1,.int .i64 s.tr,.int .i64 s.en,.int .i64 s.de],.int .i64 (wrap64 (s.x + wrap64 (wrap64 (Int.tdiv q 61) - Int.tmod q 61))),.int .i64 (Int.tmod q 61)] (by rfl) rfl rfl lA ?_
         with_reducible refine (spec_l3may.calls k1 _ _ s.l0 _ _ s.l1 s.tr s.en s.de (wrap64 (s.x + wrap64 (wrap64 (Int.tdiv q 61) - Int.tmod q 61))) (Int.tmod q 61) false _ (FE.grd HE.out).k0 HE.out.rd.n0 (FE.grd HE.out).k1 HE.out.rd.n1 AM.out).mono ?_
         rintro e w8 ⟨rfl,hb⟩;refine ⟨_,rfl,?_⟩;have n0_:=Am (FE.below HE.out hb);clear HE;have HE:=n0_;clear n0_ hb;refine hK.out _ _ ⟨(kC HE.out.st 0).trans rfl,(kC HE.out.st 1).trans rfl,(kC HE.out.st 2).trans rfl,(kC HE.out.st 3).trans rfl,(kC HE.out.st 4).trans rfl,(kC HE.out.st 6).trans rfl⟩ (fun hHeld => ?_);clear hK K;refine norm_ (a':=?_) ?_ ?_;rotate_left
         ·show Act.put _ (some 97) _ = _
          simp only [Act.put,pS]
          rfl
         refine pure_ (i:=15) (N:=some 98) (v:=?_) (a':=?_) #[true,true,true,true,true,true,true,true,true,true,true,true,true,true,true,true,false] rfl rfl (any_of HT_.out (by kernel_rfl)) (fun _ _ _ h => h) (Or.inl ⟨by rfl,?_⟩) ?_ ?_;rotate_left
         ·intro w'
          go_simp
          with_reducible rfl
         rotate_left
         ·simp only [Act.put,pS]
          rfl
         refine pure_ (i:=16) (N:=some 99) (v:=?_) (a':=?_) #[true,true,true,true,true,true,true,true,true,true,true,true,true,true,true,true,true] rfl rfl (any_of HT_.out (by kernel_rfl)) (fun _ _ _ h => h) (Or.inl ⟨by rfl,?_⟩) ?_ ?_;rotate_left
         ·intro w'
          go_simp
          with_reducible rfl
         rotate_left
         ·simp only [Act.put,pS]
          rfl
         refine done_ (done_of HT_.out (by kernel_rfl)) ?_;go_wp2
         go_roundg k1
         case measure => omega
         case rel => exact ⟨wrap64 (i + 1),Li,li,by first|rfl|(simp;done)|(simp [*];done),H',⟨by have:=HK1.out;omega⟩,⟨by (with_reducible repeat (first|refine FE.drewN ?_ _|refine FE.drew ?_|refine FE.alloc ?_ _));exact HE.out⟩⟩
        | true =>
         rw [if_pos rfl] at H;replace H:=Option.bind_eq_some_iff.mp H;obtain ⟨⟨M2,li2⟩,AP0,H⟩:=H;have AP:=Am AP0;clear AP0;have H':=Am H;clear H;go_wp2;have n0_:=Am (FE.drew HE.out);clear HE;have HE:=n0_;clear n0_;refine start_ (n:=17) (S:=fun w' => w'.cell? ⟨g,0,none⟩ = some (.slice s.A0 s.l0.length s.c0)∧w'.cell? ⟨g,1,none⟩ = some (.slice s.A1 s.l1.length s.c1)∧w'.cell? ⟨g,2,none⟩ = some (.int .i64 s.tr)∧w'.cell? ⟨g,3,none⟩ = some (.int .i64 s.en)∧w'.cell? ⟨g,4,none⟩ = some (.int .i64 s.de)∧w'.cell? ⟨g,6,none⟩ = some (.int .i64 s.x)) (ds:=[]) #[false,false,false,false,false,false,false,false,false,false,false,false,false,false,false,false,false] (by kernel_rfl) rfl rfl ⟨(kC HE.out.st 0).trans rfl,(kC HE.out.st 1).trans rfl,(kC HE.out.st 2).trans rfl,(kC HE.out.st 3).trans rfl,(kC HE.out.st 4).trans rfl,(kC HE.out.st 6).trans rfl⟩ (fun hHeld => ?_);refine with_tabW spec_fill.tab19 spec_fill.bits19 (fun HT_ HW_ => ?_);generalize wr.drew = w7 at HE hHeld ⊢;refine pure_ (i:=0) (N:=some 83) (v:=?_) (a':=?_) #[true,false,false,false,false,false,false,false,false,false,false,false,false,false,false,false,false] rfl rfl (any_of HT_.out (by kernel_rfl)) (fun _ _ _ h => h) (Or.inl ⟨by rfl,?_⟩) ?_ ?_;rotate_left
         ·intro w'
          go_simp
          with_reducible rfl
         rotate_left
         ·simp only [Act.put,pS]
          rfl
         refine pure_ (i:=1) (N:=some 84) (v:=?_) (a':=?_) #[true,true,false,false,false,false,false,false,false,false,false,false,false,false,false,false,false] rfl rfl (any_of HT_.out (by kernel_rfl)) (fun _ _ _ h => h) (Or.inl ⟨by rfl,?_⟩) ?_ ?_;rotate_left
         ·intro w'
          go_simp
          with_reducible rfl
         rotate_left
         ·simp only [Act.put,pS]
          rfl
         refine pure_ (i:=2) (N:=some 85) (v:=?_) (a':=?_) #[true,true,true,false,false,false,false,false,false,false,false,false,false,false,false,false,false] rfl rfl (any_of HT_.out (by kernel_rfl)) (fun _ _ _ h => h) (Or.inl ⟨by rfl,?_⟩) ?_ ?_;rotate_left
         ·intro w'
          go_simp
          with_reducible rfl
         rotate_left
         ·simp only [Act.put,pS]
          rfl
         refine pure_ (i:=3) (N:=some 86) (v:=?_) (a':=?_) #[true,true,true,true,false,false,false,false,false,false,false,false,false,false,false,false,false] rfl rfl (any_of HT_.out (by kernel_rfl)) (fun _ _ _ h => h) (Or.inl ⟨by rfl,?_⟩) ?_ ?_;rotate_left
         ·intro w'
          go_simp
          with_reducible rfl
         rotate_left
         ·simp only [Act.put,pS]
          rfl
         refine pure_ (i:=4) (N:=some 87) (v:=?_) (a':=?_) #[true,true,true,true,true,false,false,false,false,false,false,false,false,false,false,false,false] rfl rfl (any_of HT_.out (by kernel_rfl)) (fun _ _ _ h => h) (Or.inl ⟨by rfl,?_⟩) ?_ ?_;rotate_left
         ·intro w'
          go_simp
          with_reducible rfl
         rotate_left
         ·simp only [Act.put,pS]
          rfl
         refine pure_ (i:=5) (N:=some 88) (v:=?_) (a':=?_) #[true,true,true,true,true,true,false,false,false,false,false,false,false,false,false,false,false] rfl rfl (any_of HT_.out (by kernel_rfl)) (fun _ _ _ h => h) (Or.inl ⟨by rfl,?_⟩) ?_ ?_;rotate_left
         ·intro w'
          go_simp
          with_reducible rfl
         rotate_left
         ·simp only [Act.put,pS]
          rfl
         refine pure_ (i:=7) (N:=some 90) (v:=?_) (a':=?_) #[true,true,true,true,true,true,false,true,false,false,false,false,false,false,false,false,false] rfl rfl (any_of HT_.out (by kernel_rfl)) (fun _ _ _ h => h) (Or.inl ⟨by rfl,?_⟩) ?_ ?_;rotate_left
         ·intro w'
          go_simp
          with_reducible rfl
         rotate_left
         ·simp only [Act.put,pS]
          rfl
         refine pure_ (i:=8) (N:=some 91) (v:=?_) (a':=?_) #[true,true,true,true,true,true,false,true,true,false,false,false,false,false,false,false,false] rfl rfl (any_of HT_.out (by kernel_rfl)) (fun _ _ _ h => h) (Or.inl ⟨by rfl,?_⟩) ?_ ?_;rotate_left
         ·intro w'
          go_simp
          with_reducible rfl
         rotate_left
         ·simp only [Act.put,pS]
          rfl
         refine pure_ (i:=9) (N:=some 92) (v:=?_) (a':=?_) #[true,true,true,true,true,true,false,true,true,true,false,false,false,false,false,false,false] rfl rfl (any_of HT_.out (by kernel_rfl)) (fun _ _ _ h => h) (Or.inl ⟨by rfl,?_⟩) ?_ ?_;rotate_left
         ·intro w'
          go_simp
          with_reducible rfl
         rotate_left
         ·simp only [Act.put,pS]
          rfl
         refine pure_ (i:=11) (N:=some 94) (v:=?_) (a':=?_) #[true,true,true,true,true,true,false,true,true,true,false,true,false,false,false,false,false] rfl rfl (any_of HT_.out (by kernel_rfl)) (fun _ _ _ h => h) (Or.inl ⟨by rfl,?_⟩) ?_ ?_;rotate_left
         ·intro w'
          go_simp
          with_reducible rfl
         rotate_left
         ·simp only [Act.put,pS]
          rfl
         refine pure_ (i:=13) (N:=some 96) (v:=?_) (a':=?_) #[true,true,true,true,true,true,false,true,true,true,false,true,false,true,false,false,false] rfl rfl (any_of HT_.out (by kernel_rfl)) (fun _ _ _ h => h) (Or.inl ⟨by rfl,?_⟩) ?_ ?_;rotate_left
         ·intro w'
          go_simp
          with_reducible rfl
         rotate_left
         ·simp only [Act.put,pS]
          rfl
         refine take_ (i:=6) (N:=some 89) (v:=?_) (a':=?_) #[true,true,true,true,true,true,true,true,true,true,false,true,false,true,false,false,false] rfl rfl (take_ofW HT_.out HW_.out (by kernel_rfl)) (fun _ _ _ h => h) (Or.inl ⟨by rfl,?_⟩) hHeld ?_ ?_;rotate_left
         ·rintro w' ⟨s0,s1,s2,s3,s4,s5⟩
          go_simp
          with_reducible rfl
         rotate_left
         ·simp only [Act.put,pS]
          rfl
         refine take_ (i:=10) (N:=some 93) (v:=?_) (a':=?_) #[true,true,true,true,true,true,true,true,true,true,true,true,false,true,false,false,false] rfl rfl (take_ofW HT_.out HW_.out (by kernel_rfl)) (fun _ _ _ h => h) (Or.inl ⟨by rfl,?_⟩) hHeld ?_ ?_;rotate_left
         ·rintro w' ⟨s0,s1,s2,s3,s4,s5⟩
          go_simp
          with_reducible rfl
         rotate_left
         ·simp only [Act.put,pS]
          rfl
         refine pure_ (i:=12) (N:=some 95) (v:=?_) (a':=?_) #[true,true,true,true,true,true,true,true,true,true,true,true,true,true,false,false,false] rfl rfl (any_of HT_.out (by kernel_rfl)) (fun _ _ _ h => h) (Or.inl ⟨by rfl,?_⟩) ?_ ?_;rotate_left
         ·intro w'
          go_simp
          with_reducible rfl
         rotate_left
         ·simp only [Act.put,pS]
          rfl
         refine one_ (i:=14) (N:=some 97) #[true,true,true,true,true,true,true,true,true,true,true,true,true,true,true,false,false] rfl rfl (one_of HT_.out (by kernel_rfl)) (by decide) (fun K hK => ?_);refine goes_ Try.func47 (by kernel_rfl) rfl #[.agg #[.slice s.A0 s.l0.length s.c0,.slice s.A1 s.l1.length s.c1,.int .i64 s.tr,.int .i64 s.en,.int .i64 s.de],.int .i64 (wrap64 (s.x + wrap64 (wrap64 (Int.tdiv q 61) - Int.tmod q 61))),.int .i64 (Int.tmod q 61)] (by rfl) rfl rfl lA ?_
         with_reducible refine (spec_l3may.calls k1 _ _ s.l0 _ _ s.l1 s.tr s.en s.de (wrap64 (s.x + wrap64 (wrap64 (Int.tdiv q 61) - Int.tmod q 61))) (Int.tmod q 61) true _ (FE.grd HE.out).k0 HE.out.rd.n0 (FE.grd HE.out).k1 HE.out.rd.n1 AM.out).mono ?_
         rintro e w8 ⟨rfl,hb⟩;refine ⟨_,rfl,?_⟩;have n0_:=Am (FE.below HE.out hb);clear HE;have HE:=n0_;clear n0_ hb;refine hK.out _ _ ⟨(kC HE.out.st 0).trans rfl,(kC HE.out.st 1).trans rfl,(kC HE.out.st 2).trans rfl,(kC HE.out.st 3).trans rfl,(kC HE.out.st 4).trans rfl,(kC HE.out.st 6).trans rfl⟩ (fun hHeld => ?_);clear hK K;refine norm_ (a':=?_) ?_ ?_;rotate_left
         ·show Act.put _ (some 97) _ = _
          simp only [Act.put,pS]
          rfl
         refine pure_ (i:=15) (N:=some 98) (v:=?_) (a':=?_) #[true,true,true,true,true,true,true,true,true,true,true,true,true,true,true,true,false] rfl rfl (any_of HT_.out (by kernel_rfl)) (fun _ _ _ h => h) (Or.inl ⟨by rfl,?_⟩) ?_ ?_;rotate_left
         ·intro w'
          go_simp
          with_reducible rfl
         rotate_left
         ·simp only [Act.put,pS]
          rfl
         refine pure_ (i:=16) (N:=some 99) (v:=?_) (a':=?_) #[true,true,true,true,true,true,true,true,true,true,true,true,true,true,true,true,true] rfl rfl (any_of HT_.out (by kernel_rfl)) (fun _ _ _ h => h) (Or.inl ⟨by rfl,?_⟩) ?_ ?_;rotate_left
         ·intro w'
          go_simp
          with_reducible rfl
         rotate_left
         ·simp only [Act.put,pS]
          rfl
         refine done_ (done_of HT_.out (by kernel_rfl)) ?_;go_wp2;clear hq_0 hqf_0 c3b0 c6b0 p5 q5
         go_loopg [4,9] k1 (fun kq v4 v9 w' => ∃ (v : Int) (Lj lj : List Int),v9 = .int .i64 v∧As (fl3 s.l0 s.l1 s.tr s.en s.de s.ac s.x i (Int.tmod q 61) (wrap64 (wrap64 (Int.tdiv q 61) - Int.tmod q 61)) kq Lj lj v = some (M2,li2))∧As (kq ≤ k1)∧As (FE s w0 w w' g gl cl n Lj v4 lj))
         case atStart => exact ⟨0,_,_,by first|rfl|(simp;done)|(simp [*];done),AP,⟨Nat.le_refl _⟩,⟨by (with_reducible repeat (first|refine FE.drewN ?_ _|refine FE.drew ?_|refine FE.alloc ?_ _));exact HE.out⟩⟩
         case round =>
          clear AP HE;obtain ⟨v,Lj,lj,rfl,HA,HK2,HE⟩:=hrel
          cases gk with
          | zero => exact absurd HA.out (by simp [fl3])
          | succ k2 =>
          have H:=HA.out;clear HA;simp only [fl3] at H;rw [HE.out.nn] at H
          by_cases c7 : v ≤ 60
          case pos =>
           rw [if_pos c7] at H;have c7b0 : decide (v ≤ 60) = true:=decide_eq_true c7;clear c7
           obtain ⟨kk,hkk⟩ : ∃ j : Int,wrap64 (wrap64 ((wrap64 (wrap64 (Int.tdiv q 61) - Int.tmod q 61)) * 61) + v) = j:=⟨_,rfl⟩
           rw [hkk] at H;have HX:=Am hkk;clear hkk
           by_cases c8 : 0 ≤ kk
           case neg => rw [if_neg c8] at H;cases H
           rw [if_pos c8] at H
           by_cases c9 : kk < (n : Int)
           case neg => rw [if_neg c9] at H;cases H
           rw [if_pos c9] at H;have C8:=Am c8;have C9:=Am c9;have p8 : (0 ≤ kk) = True:=eq_true c8;have q8 : (kk < (n : Int)) = True:=eq_true c9;clear c8 c9
           by_cases c10 : rd Lj kk < 0
           case neg =>
            rw [if_neg c10] at H;have H'':=Am H;clear H;have c10b0 : decide (rd Lj kk < 0) = false:=decide_eq_false c10;clear c10
            go_wp2_with (first|((with_reducible refine gate_callee (f:=50) rfl ?_);(try (refine gate_guard (by rfl) ?_;dsimp only));refine goesL_ (some 107) rfl rfl Try.func50 (by kernel_rfl) rfl #[.pointer (some ⟨g,0,none⟩),.int .i64 (wrap64 (wrap64 (Int.tdiv q 61) - Int.tmod q 61)),.int .i64 v] rfl lA ?_;(with_reducible refine (l4_at.calls (.pointer (some ⟨g,0,none⟩)) (wrap64 (wrap64 (Int.tdiv q 61) - Int.tmod q 61)) v kk _ HX.out).mono ?_);rintro e w5 ⟨rfl,hb⟩;refine ⟨_,rfl,?_⟩;have n0_:=Am (FE.below (by (with_reducible repeat (first|refine FE.drewN ?_ _|refine FE.drew ?_|refine FE.alloc ?_ _));exact HE.out) hb);clear HE;have HE:=n0_;clear n0_ hb;obtain ⟨hx7_0,hf7_0⟩:=Kd.R_celln 0 HE.out.lf kk C8.out C9.out;rw [show rdOf 0 Lj kk = rd Lj kk from rfl] at hx7_0;have hcs8 : w5.cell? ⟨g,8,none⟩ = some (.slice (some ⟨gl,0,none⟩) n cl):=(kC HE.out.st 8).trans rfl;have hfs8:=kF HE.out.st 8))
            go_roundg k2
            case measure => omega
            case rel => exact ⟨wrap64 (v + 1),Lj,lj,by first|rfl|(simp;done)|(simp [*];done),H'',⟨by have:=HK2.out;omega⟩,⟨by (with_reducible repeat (first|refine FE.drewN ?_ _|refine FE.drew ?_|refine FE.alloc ?_ _));exact HE.out⟩⟩
           case pos =>
            rw [if_pos c10] at H;have c10b0 : decide (rd Lj kk < 0) = true:=decide_eq_true c10;clear c10;replace H:=Option.bind_eq_some_iff.mp H;obtain ⟨rt,AR0,H⟩:=H;have AR:=Am AR0;clear AR0;replace H:=Option.bind_eq_some_iff.mp H;obtain ⟨lo,AL0,H⟩:=H;have AL:=Am AL0;clear AL0
            by_cases c11 : Int.tmod q 61 ≥ lo
            case neg =>
             rw [if_neg c11] at H;have H'':=Am H;clear H;have c11b0 : decide (Int.tmod q 61 ≥ lo) = false:=decide_eq_false c11;clear c11
             go_wp2_with (first|((with_reducible refine gate_callee (f:=50) rfl ?_);(try (refine gate_guard (by rfl) ?_;dsimp only));refine goesL_ (some 107) rfl rfl Try.func50 (by kernel_rfl) rfl #[.pointer (some ⟨g,0,none⟩),.int .i64 (wrap64 (wrap64 (Int.tdiv q 61) - Int.tmod q 61)),.int .i64 v] rfl lA ?_;(with_reducible refine (l4_at.calls (.pointer (some ⟨g,0,none⟩)) (wrap64 (wrap64 (Int.tdiv q 61) - Int.tmod q 61)) v kk _ HX.out).mono ?_);rintro e w5 ⟨rfl,hb⟩;refine ⟨_,rfl,?_⟩;have n0_:=Am (FE.below (by (with_reducible repeat (first|refine FE.drewN ?_ _|refine FE.drew ?_|refine FE.alloc ?_ _));exact HE.out) hb);clear HE;have HE:=n0_;clear n0_ hb;obtain ⟨hx7_0,hf7_0⟩:=Kd.R_celln 0 HE.out.lf kk C8.out C9.out;rw [show rdOf 0 Lj kk = rd Lj kk from rfl] at hx7_0;have hcs8 : w5.cell? ⟨g,8,none⟩ = some (.slice (some ⟨gl,0,none⟩) n cl):=(kC HE.out.st 8).trans rfl;have hfs8:=kF HE.out.st 8)|((with_reducible refine gate_callee (f:=45) rfl ?_);(try (refine gate_guard (by rfl) ?_;dsimp only));refine goesL_ (some 121) rfl rfl Try.func45 (by kernel_rfl) rfl #[.pointer (some ⟨g,0,none⟩),.int .i64 (wrap64 (wrap64 (Int.tdiv q 61) - Int.tmod q 61)),.int .i64 v] rfl lA ?_;(with_reducible refine (l4_low.calls k2 s g (.slice (some ⟨gl,0,none⟩) n cl) (wrap64 (wrap64 (Int.tdiv q 61) - Int.tmod q 61)) v rt lo _ (FE.st (by (with_reducible repeat (first|refine FE.drewN ?_ _|refine FE.drew ?_|refine FE.alloc ?_ _));exact HE.out)) (FE.grd (by (with_reducible repeat (first|refine FE.drewN ?_ _|refine FE.drew ?_|refine FE.alloc ?_ _));exact HE.out)) AR.out AL.out).mono ?_);rintro e w6 ⟨rfl,hb⟩;refine ⟨_,rfl,?_⟩;have n0_:=Am (FE.below (by (with_reducible repeat (first|refine FE.drewN ?_ _|refine FE.drew ?_|refine FE.alloc ?_ _));exact HE.out) hb);clear HE;have HE:=n0_;clear n0_ hb))
             go_roundg k2
             case measure => omega
             case rel => exact ⟨wrap64 (v + 1),Lj,lj,by first|rfl|(simp;done)|(simp [*];done),H'',⟨by have:=HK2.out;omega⟩,⟨by (with_reducible repeat (first|refine FE.drewN ?_ _|refine FE.drew ?_|refine FE.alloc ?_ _));exact HE.out⟩⟩
            case pos =>
             rw [if_pos c11] at H;have c11b0 : decide (Int.tmod q 61 ≥ lo) = true:=decide_eq_true c11;clear c11
             obtain ⟨hi,hhi⟩ : ∃ j : Int,hiV s.ac v = j:=⟨_,rfl⟩
             rw [hhi] at H;have HHI:=Am hhi;clear hhi
             by_cases c12 : Int.tmod q 61 ≤ hi
             case neg =>
              rw [if_neg c12] at H;have H'':=Am H;clear H;have c12b0 : decide (Int.tmod q 61 ≤ hi) = false:=decide_eq_false c12;clear c12
              go_wp2_with (first|((with_reducible refine gate_callee (f:=50) rfl ?_);(try (refine gate_guard (by rfl) ?_;dsimp only));refine goesL_ (some 107) rfl rfl Try.func50 (by kernel_rfl) rfl #[.pointer (some ⟨g,0,none⟩),.int .i64 (wrap64 (wrap64 (Int.tdiv q 61) - Int.tmod q 61)),.int .i64 v] rfl lA ?_;(with_reducible refine (l4_at.calls (.pointer (some ⟨g,0,none⟩)) (wrap64 (wrap64 (Int.tdiv q 61) - Int.tmod q 61)) v kk _ HX.out).mono ?_);rintro e w5 ⟨rfl,hb⟩;refine ⟨_,rfl,?_⟩;have n0_:=Am (FE.below (by (with_reducible repeat (first|refine FE.drewN ?_ _|refine FE.drew ?_|refine FE.alloc ?_ _));exact HE.out) hb);clear HE;have HE:=n0_;clear n0_ hb;obtain ⟨hx7_0,hf7_0⟩:=Kd.R_celln 0 HE.out.lf kk C8.out C9.out;rw [show rdOf 0 Lj kk = rd Lj kk from rfl] at hx7_0;have hcs8 : w5.cell? ⟨g,8,none⟩ = some (.slice (some ⟨gl,0,none⟩) n cl):=(kC HE.out.st 8).trans rfl;have hfs8:=kF HE.out.st 8)|((with_reducible refine gate_callee (f:=45) rfl ?_);(try (refine gate_guard (by rfl) ?_;dsimp only));refine goesL_ (some 121) rfl rfl Try.func45 (by kernel_rfl) rfl #[.pointer (some ⟨g,0,none⟩),.int .i64 (wrap64 (wrap64 (Int.tdiv q 61) - Int.tmod q 61)),.int .i64 v] rfl lA ?_;(with_reducible refine (l4_low.calls k2 s g (.slice (some ⟨gl,0,none⟩) n cl) (wrap64 (wrap64 (Int.tdiv q 61) - Int.tmod q 61)) v rt lo _ (FE.st (by (with_reducible repeat (first|refine FE.drewN ?_ _|refine FE.drew ?_|refine FE.alloc ?_ _));exact HE.out)) (FE.grd (by (with_reducible repeat (first|refine FE.drewN ?_ _|refine FE.drew ?_|refine FE.alloc ?_ _));exact HE.out)) AR.out AL.out).mono ?_);rintro e w6 ⟨rfl,hb⟩;refine ⟨_,rfl,?_⟩;have n0_:=Am (FE.below (by (with_reducible repeat (first|refine FE.drewN ?_ _|refine FE.drew ?_|refine FE.alloc ?_ _));exact HE.out) hb);clear HE;have HE:=n0_;clear n0_ hb)|((with_reducible refine gate_callee (f:=46) rfl ?_);(try (refine gate_guard (by rfl) ?_;dsimp only));refine goesL_ (some 128) rfl rfl Try.func46 (by kernel_rfl) rfl #[.pointer (some ⟨g,0,none⟩),.int .i64 v] rfl lA ?_;(with_reducible refine (l4_high.calls s g (.slice (some ⟨gl,0,none⟩) n cl) v hi _ (FE.st (by (with_reducible repeat (first|refine FE.drewN ?_ _|refine FE.drew ?_|refine FE.alloc ?_ _));exact HE.out)) HHI.out).mono ?_);rintro e w9 ⟨rfl,hb⟩;refine ⟨_,rfl,?_⟩;have n0_:=Am (FE.below (by (with_reducible repeat (first|refine FE.drewN ?_ _|refine FE.drew ?_|refine FE.alloc ?_ _));exact HE.out) hb);clear HE;have HE:=n0_;clear n0_ hb))
              go_roundg k2
              case measure => omega
              case rel => exact ⟨wrap64 (v + 1),Lj,lj,by first|rfl|(simp;done)|(simp [*];done),H'',⟨by have:=HK2.out;omega⟩,⟨by (with_reducible repeat (first|refine FE.drewN ?_ _|refine FE.drew ?_|refine FE.alloc ?_ _));exact HE.out⟩⟩
             case pos =>
              rw [if_pos c12] at H;have c12b0 : decide (Int.tmod q 61 ≤ hi) = true:=decide_eq_true c12;clear c12
              by_cases c13 : 0 ≤ i
              case neg => rw [if_neg c13] at H;cases H
              rw [if_pos c13] at H
              by_cases c14 : i < (lj.length : Int)
              case neg => rw [if_neg c14] at H;cases H
              rw [if_pos c14] at H
              obtain ⟨q2,hq2⟩ : ∃ j : Int,rd lj i = j:=⟨_,rfl⟩
              rw [hq2] at H;have HQ2:=Am hq2;clear hq2
              by_cases c15 : 0 ≤ q2
              case neg => rw [if_neg c15] at H;cases H
              rw [if_pos c15] at H
              by_cases c16 : q2 < (n : Int)
              case neg => rw [if_neg c16] at H;cases H
              rw [if_pos c16] at H
              by_cases c17 : lj.length ≤ 1000000
              case neg => rw [if_neg c17] at H;cases H
              rw [if_pos c17] at H;have C13:=Am c13;have C14:=Am c14;have C15:=Am c15;have C16:=Am c16;have C17:=Am c17;have p13 : (0 ≤ i) = True:=eq_true c13;have q13 : (i < (lj.length : Int)) = True:=eq_true c14;have p15 : (0 ≤ q2) = True:=eq_true c15;have q15 : (q2 < (n : Int)) = True:=eq_true c16;clear c13 c14 c15 c16 c17;obtain ⟨go,co,eo,hgb,hgl,hgc⟩:=Kd.R_form HE.out.ln (by have:=C13.out;have:=C14.out;omega);subst eo;clear hgb hgl hgc;have H'':=Am H;clear H
              go_wp2_with (first|((with_reducible refine gate_callee (f:=50) rfl ?_);(try (refine gate_guard (by rfl) ?_;dsimp only));refine goesL_ (some 107) rfl rfl Try.func50 (by kernel_rfl) rfl #[.pointer (some ⟨g,0,none⟩),.int .i64 (wrap64 (wrap64 (Int.tdiv q 61) - Int.tmod q 61)),.int .i64 v] rfl lA ?_;(with_reducible refine (l4_at.calls (.pointer (some ⟨g,0,none⟩)) (wrap64 (wrap64 (Int.tdiv q 61) - Int.tmod q 61)) v kk _ HX.out).mono ?_);rintro e w5 ⟨rfl,hb⟩;refine ⟨_,rfl,?_⟩;have n0_:=Am (FE.below (by (with_reducible repeat (first|refine FE.drewN ?_ _|refine FE.drew ?_|refine FE.alloc ?_ _));exact HE.out) hb);clear HE;have HE:=n0_;clear n0_ hb;obtain ⟨hx7_0,hf7_0⟩:=Kd.R_celln 0 HE.out.lf kk C8.out C9.out;rw [show rdOf 0 Lj kk = rd Lj kk from rfl] at hx7_0;have hcs8 : w5.cell? ⟨g,8,none⟩ = some (.slice (some ⟨gl,0,none⟩) n cl):=(kC HE.out.st 8).trans rfl;have hfs8:=kF HE.out.st 8)|((with_reducible refine gate_callee (f:=45) rfl ?_);(try (refine gate_guard (by rfl) ?_;dsimp only));refine goesL_ (some 121) rfl rfl Try.func45 (by kernel_rfl) rfl #[.pointer (some ⟨g,0,none⟩),.int .i64 (wrap64 (wrap64 (Int.tdiv q 61) - Int.tmod q 61)),.int .i64 v] rfl lA ?_;(with_reducible refine (l4_low.calls k2 s g (.slice (some ⟨gl,0,none⟩) n cl) (wrap64 (wrap64 (Int.tdiv q 61) - Int.tmod q 61)) v rt lo _ (FE.st (by (with_reducible repeat (first|refine FE.drewN ?_ _|refine FE.drew ?_|refine FE.alloc ?_ _));exact HE.out)) (FE.grd (by (with_reducible repeat (first|refine FE.drewN ?_ _|refine FE.drew ?_|refine FE.alloc ?_ _));exact HE.out)) AR.out AL.out).mono ?_);rintro e w6 ⟨rfl,hb⟩;refine ⟨_,rfl,?_⟩;have n0_:=Am (FE.below (by (with_reducible repeat (first|refine FE.drewN ?_ _|refine FE.drew ?_|refine FE.alloc ?_ _));exact HE.out) hb);clear HE;have HE:=n0_;clear n0_ hb)|((with_reducible refine gate_callee (f:=46) rfl ?_);(try (refine gate_guard (by rfl) ?_;dsimp only));refine goesL_ (some 128) rfl rfl Try.func46 (by kernel_rfl) rfl #[.pointer (some ⟨g,0,none⟩),.int .i64 v] rfl lA ?_;(with_reducible refine (l4_high.calls s g (.slice (some ⟨gl,0,none⟩) n cl) v hi _ (FE.st (by (with_reducible repeat (first|refine FE.drewN ?_ _|refine FE.drew ?_|refine FE.alloc ?_ _));exact HE.out)) HHI.out).mono ?_);rintro e w9 ⟨rfl,hb⟩;refine ⟨_,rfl,?_⟩;have n0_:=Am (FE.below (by (with_reducible repeat (first|refine FE.drewN ?_ _|refine FE.drew ?_|refine FE.alloc ?_ _));exact HE.out) hb);clear HE;have HE:=n0_;clear n0_ hb))
              clear hx7_0 hf7_0 hcs8 hfs8;have n0_:=Am (FE.drew HE.out);clear HE;have HE:=n0_;clear n0_;refine start_ (n:=18) (S:=fun w' => w'.cell? ⟨g,8,none⟩ = some (.slice (some ⟨gl,0,none⟩) n cl)∧w'.cell? ⟨go,i.toNat,none⟩ = some (.int .i64 q2)∧w'.cell? ⟨gl,q2.toNat,none⟩ = some (.int .i64 (rd Lj q2))) (ds:=[17]) #[false,false,false,false,false,false,false,false,false,false,false,false,false,false,false,false,false,false] (by kernel_rfl) rfl rfl ⟨(kC HE.out.st 8).trans rfl,(by have h_:=(Kd.R_celln 0 HE.out.ln i C13.out C14.out).1;rw [show rdOf 0 lj i = rd lj i from rfl,HQ2.out] at h_;exact h_),(Kd.R_celln 0 HE.out.lf q2 C15.out C16.out).1⟩ (fun hHeld => ?_);refine with_tabW spec_fill.tab25 spec_fill.bits25 (fun HT_ HW_ => ?_);generalize w9.drew = w10 at HE hHeld ⊢;refine pure_ (i:=0) (N:=some 131) (v:=?_) (a':=?_) #[true,false,false,false,false,false,false,false,false,false,false,false,false,false,false,false,false,false] rfl rfl (any_of HT_.out (by kernel_rfl)) (fun _ _ _ h => h) (Or.inl ⟨by rfl,?_⟩) ?_ ?_;rotate_left
              ·intro w'
               go_simp
               with_reducible rfl
              rotate_left
              ·simp only [Act.put,pS]
               rfl
              refine pure_ (i:=1) (N:=some 132) (v:=?_) (a':=?_) #[true,true,false,false,false,false,false,false,false,false,false,false,false,false,false,false,false,false] rfl rfl (any_of HT_.out (by kernel_rfl)) (fun _ _ _ h => h) (Or.inl ⟨by rfl,?_⟩) ?_ ?_;rotate_left
              ·intro w'
               go_simp
               with_reducible rfl
              rotate_left
              ·simp only [Act.put,pS]
               rfl
              refine pure_ (i:=2) (N:=some 133) (v:=?_) (a':=?_) #[true,true,true,false,false,false,false,false,false,false,false,false,false,false,false,false,false,false] rfl rfl (any_of HT_.out (by kernel_rfl)) (fun _ _ _ h => h) (Or.inl ⟨by rfl,?_⟩) ?_ ?_;rotate_left
              ·intro w'
               go_simp
               with_reducible rfl
              rotate_left
              ·simp only [Act.put,pS]
               rfl
              refine pure_ (i:=4) (N:=some 135) (v:=?_) (a':=?_) #[true,true,true,false,true,false,false,false,false,false,false,false,false,false,false,false,false,false] rfl rfl (any_of HT_.out (by kernel_rfl)) (fun _ _ _ h => h) (Or.inl ⟨by rfl,?_⟩) ?_ ?_;rotate_left
              ·intro w'
               go_simp
               with_reducible rfl
              rotate_left
              ·simp only [Act.put,pS]
               rfl
              refine pure_ (i:=5) (N:=some 136) (v:=?_) (a':=?_) #[true,true,true,false,true,true,false,false,false,false,false,false,false,false,false,false,false,false] rfl rfl (any_of HT_.out (by kernel_rfl)) (fun _ _ _ h => h) (Or.inl ⟨by rfl,?_⟩) ?_ ?_;rotate_left
              ·intro w'
               go_simp
               with_reducible rfl
              rotate_left
              ·simp only [Act.put,pS]
               rfl
              refine pure_ (i:=6) (N:=some 137) (v:=?_) (a':=?_) #[true,true,true,false,true,true,true,false,false,false,false,false,false,false,false,false,false,false] rfl rfl (any_of HT_.out (by kernel_rfl)) (fun _ _ _ h => h) (Or.inl ⟨by rfl,?_⟩) ?_ ?_;rotate_left
              ·intro w'
               go_simp
               with_reducible rfl
              rotate_left
              ·simp only [Act.put,pS]
               rfl
              refine pure_ (i:=7) (N:=some 138) (v:=?_) (a':=?_) #[true,true,true,false,true,true,true,true,false,false,false,false,false,false,false,false,false,false] rfl rfl (any_of HT_.out (by kernel_rfl)) (fun _ _ _ h => h) (Or.inl ⟨by rfl,?_⟩) ?_ ?_;rotate_left
              ·intro w'
               go_simp
               with_reducible rfl
              rotate_left
              ·simp only [Act.put,pS]
               rfl
              refine pure_ (i:=9) (N:=some 140) (v:=?_) (a':=?_) #[true,true,true,false,true,true,true,true,false,true,false,false,false,false,false,false,false,false] rfl rfl (any_of HT_.out (by kernel_rfl)) (fun _ _ _ h => h) (Or.inl ⟨by rfl,?_⟩) ?_ ?_;rotate_left
              ·intro w'
               go_simp
               with_reducible rfl
              rotate_left
              ·simp only [Act.put,pS]
               rfl
              refine pure_ (i:=10) (N:=some 141) (v:=?_) (a':=?_) #[true,true,true,false,true,true,true,true,false,true,true,false,false,false,false,false,false,false] rfl rfl (any_of HT_.out (by kernel_rfl)) (fun _ _ _ h => h) (Or.inl ⟨by rfl,?_⟩) ?_ ?_;rotate_left
              ·intro w'
               go_simp
               with_reducible rfl
              rotate_left
              ·simp only [Act.put,pS]
               rfl
              refine pure_ (i:=11) (N:=some 142) (v:=?_) (a':=?_) #[true,true,true,false,true,true,true,true,false,true,true,true,false,false,false,false,false,false] rfl rfl (any_of HT_.out (by kernel_rfl)) (fun _ _ _ h => h) (Or.inl ⟨by rfl,?_⟩) ?_ ?_;rotate_left
              ·intro w'
               go_simp
               with_reducible rfl
              rotate_left
              ·simp only [Act.put,pS]
               rfl
              refine take_ (i:=3) (N:=some 134) (v:=?_) (a':=?_) #[true,true,true,true,true,true,true,true,false,true,true,true,false,false,false,false,false,false] rfl rfl (take_ofW HT_.out HW_.out (by kernel_rfl)) (fun _ _ _ h => h) (Or.inl ⟨by rfl,?_⟩) hHeld ?_ ?_;rotate_left
              ·rintro w' ⟨s0,s1,s2⟩
               go_simp
               with_reducible rfl
              rotate_left
              ·simp only [Act.put,pS]
               rfl
              refine take_ (i:=8) (N:=some 139) (v:=?_) (a':=?_) #[true,true,true,true,true,true,true,true,true,true,true,true,false,false,false,false,false,false] rfl rfl (take_ofW HT_.out HW_.out (by kernel_rfl)) (fun _ _ _ h => h) (Or.inl ⟨by rfl,?_⟩) hHeld ?_ ?_;rotate_left
              ·rintro w' ⟨s0,s1,s2⟩
               go_simp
               with_reducible rfl
              rotate_left
              ·simp only [Act.put,pS]
               rfl
              refine take_ (i:=12) (N:=some 143) (v:=?_) (a':=?_) #[true,true,true,true,true,true,true,true,true,true,true,true,true,false,false,false,false,false] rfl rfl (take_ofW HT_.out HW_.out (by kernel_rfl)) (fun _ _ _ h => h) (Or.inl ⟨by rfl,?_⟩) hHeld ?_ ?_;rotate_left
              ·rintro w' ⟨s0,s1,s2⟩
               go_simp
               with_reducible rfl
              rotate_left
              ·simp only [Act.put,pS]
               rfl
              refine pure_ (i:=13) (N:=some 144) (v:=?_) (a':=?_) #[true,true,true,true,true,true,true,true,true,true,true,true,true,true,false,false,false,false] rfl rfl (any_of HT_.out (by kernel_rfl)) (fun _ _ _ h => h) (Or.inl ⟨by rfl,?_⟩) ?_ ?_;rotate_left
              ·intro w'
               go_simp
               with_reducible rfl
              rotate_left
              ·simp only [Act.put,pS]
               rfl
              refine take_ (i:=14) (N:=some 145) (v:=?_) (a':=?_) #[true,true,true,true,true,true,true,true,true,true,true,true,true,true,true,false,false,false] rfl rfl (take_ofW HT_.out HW_.out (by kernel_rfl)) (fun _ _ _ h => h) (Or.inl ⟨by rfl,?_⟩) hHeld ?_ ?_;rotate_left
              ·rintro w' ⟨s0,s1,s2⟩
               go_simp
               with_reducible rfl
              rotate_left
              ·simp only [Act.put,pS]
               rfl
              refine pure_ (i:=15) (N:=some 146) (v:=?_) (a':=?_) #[true,true,true,true,true,true,true,true,true,true,true,true,true,true,true,true,false,false] rfl rfl (any_of HT_.out (by kernel_rfl)) (fun _ _ _ h => h) (Or.inl ⟨by rfl,?_⟩) ?_ ?_;rotate_left
              ·intro w'
               go_simp
               with_reducible rfl
              rotate_left
              ·simp only [Act.put,pS]
               rfl
              refine pure_ (i:=16) (N:=some 147) (v:=?_) (a':=?_) #[true,true,true,true,true,true,true,true,true,true,true,true,true,true,true,true,true,false] rfl rfl (any_of HT_.out (by kernel_rfl)) (fun _ _ _ h => h) (Or.inl ⟨by rfl,?_⟩) ?_ ?_;rotate_left
              ·intro w'
               go_simp
               with_reducible rfl
              rotate_left
              ·simp only [Act.put,pS]
               rfl
              refine last_ (i:=17) (N:=none) #[true,true,true,true,true,true,true,true,true,true,true,true,true,true,true,true,true,true] rfl rfl (one_of HT_.out (by kernel_rfl)) (by decide) (fun K hK => ?_);obtain ⟨hx5_0,hf5_0⟩:=Kd.R_celln 0 HE.out.lf kk C8.out C9.out;refine skip_ (w1:=?_) (by rfl) rfl ?_ ?_;rotate_left
              ·go_simp
               rfl
              refine hK.out _ _ ?_;clear hK K;refine done_ (done_of HT_.out (by kernel_rfl)) ?_;have n0_:=Am (FE.set HE.out kk (wrap64 (rd Lj q2 + 1)));clear HE;have HE:=n0_;clear n0_ hx5_0 hf5_0;generalize w10.setCell ⟨gl,kk.toNat,none⟩ (.int .i64 (wrap64 (rd Lj q2 + 1))) = w11 at HE ⊢
              go_wp2_with (first|((with_reducible refine gate_builtin (b:=.append) (xs:=#[.tmp 148,.tmp 150]) rfl ?_);at_builtin;refine Kd.R_append (Kd.int .i64) (w0:=?w0_2) w.heap.size rfl (.tmp 148) (.tmp 150) 27 3 (.int .i64 0) 8 rfl Try.underlying27 finfo3 rfl (by decide) (by omega) (.slice (some ⟨go,0,none⟩) lj.length co) lj (kk) [.int .i64 (kk)] (fun k => k ≠ gl) (fun _ => False) rfl rfl ?aP (fun _ hk => hk.elim) ?aF ?aO ?aB ?aS ?aL ?_;(case aP => exact rfl);(case aB => exact (Below.refl _ _));(case aF => exact FE.fresh (by (with_reducible repeat (first|refine FE.drewN ?_ _|refine FE.drew ?_|refine FE.alloc ?_ _));exact HE.out));(case aO => exact FE.ln (by (with_reducible repeat (first|refine FE.drewN ?_ _|refine FE.drew ?_|refine FE.alloc ?_ _));exact HE.out));(case aS => exact FE.hw (by (with_reducible repeat (first|refine FE.drewN ?_ _|refine FE.drew ?_|refine FE.alloc ?_ _));exact HE.out));(case aL => have:=C17.out;omega);intro v13 w12 ho hb hg hat;have n0_:=Am (FE.app (by (with_reducible repeat (first|refine FE.drewN ?_ _|refine FE.drew ?_|refine FE.alloc ?_ _));exact HE.out) ho hb hg : FE s w0 w w12 g gl cl n (Lj.set kk.toNat (wrap64 (rd Lj q2 + 1))) v13 (lj ++ [kk]));clear HE;have HE:=n0_;clear n0_ ho hb hg hat))
              go_roundg k2
              case measure => omega
              case rel => exact ⟨wrap64 (v + 1),Lj.set kk.toNat (wrap64 (rd Lj q2 + 1)),lj ++ [kk],by first|rfl|(simp;done)|(simp [*];done),H'',⟨by have:=HK2.out;omega⟩,⟨by (with_reducible repeat (first|refine FE.drewN ?_ _|refine FE.drew ?_|refine FE.alloc ?_ _));exact HE.out⟩⟩
          case neg =>
           rw [if_neg c7] at H;have c7b0 : decide (v ≤ 60) = false:=decide_eq_false c7;clear c7;simp only [Option.some.injEq,Prod.mk.injEq] at H;obtain ⟨rfl,rfl⟩:=H;go_wp2
           go_roundg k1
           case measure => omega
           case rel => exact ⟨wrap64 (i + 1),_,_,by first|rfl|(simp;done)|(simp [*];done),H',⟨by have:=HK1.out;omega⟩,⟨by (with_reducible repeat (first|refine FE.drewN ?_ _|refine FE.drew ?_|refine FE.alloc ?_ _));exact HE.out⟩⟩
      case neg =>
       rw [if_neg c3] at H;obtain rfl:=Option.some.inj H;obtain ⟨Ao,co,eo⟩:=Kd.R_slice HE.out.ln;subst eo;have c3b0 : decide (i < (li.length : Int)) = false:=decide_eq_false c3;clear c3;go_wp2
       first|go_end0|((try simp only [Exit.inBlock,Exit.then]);refine bodyPost_ret (results_none rfl _ _ _) rfl ?_)
       exact ⟨by rfl,_,_,_,_,_,by (with_reducible repeat (first|refine FE.drewN ?_ _|refine FE.drew ?_|refine FE.alloc ?_ _));exact HE.out⟩
/-! ### the reference's fastest run: its surroundings -/
/-- Behind fill: the profile's block, the answer's, the state's, the state's own list. -/
structure SZ (s : GSt) (w W : World) (gp gr g gl cl n : Nat) (Li : List Int) : Prop where
 pb : W.heap[gp]? = some (.cells #[.slice s.A0 s.l0.length s.c0,.slice s.A1 s.l1.length s.c1,.int .i64 s.tr,.int .i64 s.en,.int .i64 s.de] 26 (0,0))
 rb : W.heap[gr]? = some (.cells #[.bool false,.int .i64 0,.slice none 0 0] 41 (0,0))
 st : W.heap[g]? = some (.cells #[.slice s.A0 s.l0.length s.c0,.slice s.A1 s.l1.length s.c1,.int .i64 s.tr,.int .i64 s.en,.int .i64 s.de,.int .i64 s.ac,.int .i64 s.x,.int .i64 s.sh,.slice (some ⟨gl,0,none⟩) n cl] 72 (0,0))
 nn : Li.length = n
 lf : Kd.R (Kd.int .i64) 3 W w.heap.size (fun k => k = gl) (.slice (some ⟨gl,0,none⟩) n cl) Li
 np : w.heap.size ≤ gp
 nr : w.heap.size ≤ gr
 ng : w.heap.size ≤ g
 bw : Below w.heap.size w W
 rd : GRd s w
section
variable {s : GSt} {w W W1 : World} {gp gr g gl cl n : Nat} {Li : List Int}
theorem SZ.below (h : SZ s w W gp gr g gl cl n Li) (hb : Below W.heap.size W W1) : SZ s w W1 gp gr g gl cl n Li :=
 ⟨blk_below h.pb hb,blk_below h.rb hb,blk_below h.st hb,h.nn,Kd.R_below h.lf hb,h.np,h.nr,h.ng,below_step h.bw hb,h.rd⟩
theorem SZ.drewN (h : SZ s w W gp gr g gl cl n Li) (m : Nat) : SZ s w (W.drewN m) gp gr g gl cl n Li:=h.below (bN (Below.refl _ _) m)
theorem SZ.drew (h : SZ s w W gp gr g gl cl n Li) : SZ s w W.drew gp gr g gl cl n Li:=h.below (bD (Below.refl _ _))
theorem SZ.alloc (h : SZ s w W gp gr g gl cl n Li) (o : Obj) : SZ s w (W.alloc o) gp gr g gl cl n Li:=h.below (bA (Below.refl _ _) o)
theorem SZ.grd (h : SZ s w W gp gr g gl cl n Li) : GRd s W:=h.rd.below h.bw
theorem SZ.start {w1 : World} {vl : Value} {li : List Int} (hp : w1.heap[gp]? = some (.cells #[.slice s.A0 s.l0.length s.c0,.slice s.A1 s.l1.length s.c1,.int .i64 s.tr,.int .i64 s.en,.int .i64 s.de] 26 (0,0))) (hr : w1.heap[gr]? = some (.cells #[.bool false,.int .i64 0,.slice none 0 0] 41 (0,0))) (hfe : FE s w w1 W g gl cl n Li vl li) (np : w.heap.size ≤ gp) (nr : w.heap.size ≤ gr) (hpg : gp ≠ g) (hrg : gr ≠ g) (hb : w.heap.size ≤ w1.heap.size) : SZ s w W gp gr g gl cl n Li :=
 ⟨hfe.kp.blk hp hpg (by simp),hfe.kp.blk hr hrg (by simp),hfe.st,hfe.nn,Kd.R_lower hfe.lf hb,np,nr,hfe.g0,hfe.bw,hfe.rd⟩
end
/-- And the answer that is filled, with its list: 'vc' stands in its block, 'vo' is the list. -/
structure SE (s : GSt) (w W : World) (gp gr g gl cl n : Nat) (Li : List Int) (go : Nat) (kk : Int) (vc vo : Value) (ou : List Int) : Prop where
 sz : SZ s w W gp gr g gl cl n Li
 ob : W.heap[go]? = some (.cells #[.bool true,.int .i64 kk,vc] 41 (0,0))
 ol : Kd.R (Kd.int .i64) 3 W w.heap.size (fun k => k ≠ gp∧k ≠ gr∧k ≠ g∧k ≠ gl∧k ≠ go) vo ou
 no : w.heap.size ≤ go
 op : go ≠ gp
 or_ : go ≠ gr
 og : go ≠ g
 ogl : go ≠ gl
section
variable {s : GSt} {w W W1 : World} {gp gr g gl cl n go : Nat} {Li ou : List Int} {kk : Int} {vc vo : Value}
theorem SE.below (h : SE s w W gp gr g gl cl n Li go kk vc vo ou) (hb : Below W.heap.size W W1) : SE s w W1 gp gr g gl cl n Li go kk vc vo ou :=
 ⟨h.sz.below hb,blk_below h.ob hb,Kd.R_below h.ol hb,h.no,h.op,h.or_,h.og,h.ogl⟩
theorem SE.drewN (h : SE s w W gp gr g gl cl n Li go kk vc vo ou) (m : Nat) : SE s w (W.drewN m) gp gr g gl cl n Li go kk vc vo ou:=h.below (bN (Below.refl _ _) m)
theorem SE.drew (h : SE s w W gp gr g gl cl n Li go kk vc vo ou) : SE s w W.drew gp gr g gl cl n Li go kk vc vo ou:=h.below (bD (Below.refl _ _))
theorem SE.alloc (h : SE s w W gp gr g gl cl n Li go kk vc vo ou) (o : Obj) : SE s w (W.alloc o) gp gr g gl cl n Li go kk vc vo ou:=h.below (bA (Below.refl _ _) o)
theorem SE.fresh (h : SE s w W gp gr g gl cl n Li go kk vc vo ou) : ∀ k,W.heap.size ≤ k → (k ≠ gp∧k ≠ gr∧k ≠ g∧k ≠ gl∧k ≠ go):=fun k hk => by
 have h1:=blk_lt h.sz.pb;have h2:=blk_lt h.sz.rb;have h3:=blk_lt h.sz.st;have h4:=Kd.R_lt h.sz.lf gl (by simp [Value.ownBlock]);have h5:=blk_lt h.ob
 omega
theorem SE.hw (h : SE s w W gp gr g gl cl n Li go kk vc vo ou) : w.heap.size ≤ W.heap.size:=h.sz.bw.size
theorem SE.app {v1 : Value} {l1 : List Int} (h : SE s w W gp gr g gl cl n Li go kk vc vo ou) (hr : Kd.R (Kd.int .i64) 3 W1 w.heap.size (fun k => k ≠ gp∧k ≠ gr∧k ≠ g∧k ≠ gl∧k ≠ go) v1 l1) (hb : Below w.heap.size W W1) (hg : W.grownBy W1 vo.ownBlock) : SE s w W1 gp gr g gl cl n Li go kk vc v1 l1:=by
 have hn : ∀ k,vo.ownBlock = some k → (k ≠ gp∧k ≠ gr∧k ≠ g∧k ≠ gl∧k ≠ go):=h.ol.1
 exact ⟨⟨blk_grown h.sz.pb hg (fun e => (hn _ e.symm).1 rfl),blk_grown h.sz.rb hg (fun e => (hn _ e.symm).2.1 rfl),blk_grown h.sz.st hg (fun e => (hn _ e.symm).2.2.1 rfl),h.sz.nn,Kd.R_step h.sz.lf (fun k hk hlt => hg.block k hlt (fun e => (hn _ e.symm).2.2.2.1 hk)),h.sz.np,h.sz.nr,h.sz.ng,h.sz.bw.trans hb,h.sz.rd⟩,
  blk_grown h.ob hg (fun e => (hn _ e.symm).2.2.2.2 rfl),hr,h.no,h.op,h.or_,h.og,h.ogl⟩
theorem SZ.set (h : SZ s w W gp gr g gl cl n Li) {go : Nat} (no : w.heap.size ≤ go) (op : go ≠ gp) (or_ : go ≠ gr) (og : go ≠ g) (ogl : go ≠ gl) (j : Nat) (u : Value) : SZ s w (W.setCell ⟨go,j,none⟩ u) gp gr g gl cl n Li :=
 ⟨blk_far h.pb (fun e => op e.symm) _,blk_far h.rb (fun e => or_ e.symm) _,blk_far h.st (fun e => og e.symm) _,h.nn,Kd.R_far h.lf (fun k hk e => ogl (by rw [← hk];exact e.symm)) _,h.np,h.nr,h.ng,h.bw.setCell no _,h.rd⟩
theorem SE.put (h : SE s w W gp gr g gl cl n Li go kk vc vo ou) : SE s w (W.setCell ⟨go,2,none⟩ vo) gp gr g gl cl n Li go kk vo vo ou :=
 ⟨h.sz.set h.no h.op h.or_ h.og h.ogl 2 vo,(blk_set h.ob 2 _).trans rfl,Kd.R_far h.ol (fun k hk => hk.2.2.2.2) _,h.no,h.op,h.or_,h.og,h.ogl⟩
theorem SE.start (h : SZ s w W gp gr g gl cl n Li) (hob : W.heap[go]? = some (.cells #[.bool true,.int .i64 kk,.slice none 0 0] 41 (0,0))) (no : w.heap.size ≤ go) (op : go ≠ gp) (or_ : go ≠ gr) (og : go ≠ g) (ogl : go ≠ gl) : SE s w W gp gr g gl cl n Li go kk (.slice none 0 0) (.slice none 0 0) [] :=
 ⟨h,hob,Kd.R_nil _ _ _ _ _,no,op,or_,og,ogl⟩
end

/-! ### spec_Fastest: function 18 -/
/-- The next speed: the greatest that leads on. -/
def sl1 (l0 : List S39) (l1 : List S45) (tr en de x : Int) (M : List Int) (d hi kk : Int) : Nat → Int → Int → Option Int
 | 0,_,_ => none
 | k + 1,z,best => if z ≤ hi then ((spec_l3may.f k l0 l1 tr en de (wrap64 (x + d)) z).bind fun m => (if m = true then (if 0 ≤ wrap64 (wrap64 (wrap64 (d + z) * 61) + z) then (if wrap64 (wrap64 (wrap64 (d + z) * 61) + z) < (M.length : Int) then (if rd M (wrap64 (wrap64 (wrap64 (d + z) * 61) + z)) = wrap64 (kk - 1) then sl1 l0 l1 tr en de x M d hi kk k (wrap64 (z + 1)) z else sl1 l0 l1 tr en de x M d hi kk k (wrap64 (z + 1)) best) else none) else none) else sl1 l0 l1 tr en de x M d hi kk k (wrap64 (z + 1)) best)) else some best
/-- From speed to speed. -/
def sl0 (l0 : List S39) (l1 : List S45) (tr en de ac x : Int) (M : List Int) : Nat → Int → Int → Int → List Int → Option (List Int)
 | 0,_,_,_,_ => none
 | k + 1,d,v,kk,ou => if kk > 0 then ((spec_l2rate.f k l0 l1 tr en de (wrap64 (x + d))).bind fun rt => ((spec_l2less.f v rt).bind fun lo => ((sl1 l0 l1 tr en de x M d (hiV ac v) kk k lo 0).bind fun b => (if ou.length ≤ 1000000 then sl0 l0 l1 tr en de ac x M k (wrap64 (d + b)) b (wrap64 (kk - 1)) (ou ++ [b]) else none)))) else some ou
def spec_Fastest.f (k : Nat) (l0 : List S39) (l1 : List S45) (tr en de ac x sh : Int) : Option (Bool × Int × List Int) :=
 (spec_l4good.f k l0 l1 tr en de ac x sh).bind fun b => (if b = true then ((spec_fill.f k l0 l1 tr en de ac x sh).bind fun M => (if 0 < (M.length : Int) then (if rd M 0 < 0 then some (false,0,[]) else (if rd M 0 > 2000 then some (false,0,[]) else ((sl0 l0 l1 tr en de ac x M k 0 0 (rd M 0) []).bind fun o => some (true,rd M 0,o)))) else none)) else some (false,0,[]))

def spec_Fastest.T7 : Bool × List (List Nat × List Nat):=(true,[([],[]),([0],[0]),([1],[1]),([2],[2]),([],[]),([4],[4]),([3,5],[3,5]),([6],[6]),([7,5,0,1,2,3,4,5,6,7],[7])])
def spec_Fastest.B7 : List Nat:=[0,1,3,7,0,16,63,127,255]
theorem spec_Fastest.tab7 : rtab .any (opsOf Try.f18 7) = spec_Fastest.T7:=by kernel_rfl
theorem spec_Fastest.bits7 : waitsOk spec_Fastest.T7.2 spec_Fastest.B7 = true:=by kernel_rfl
def spec_Fastest.T17 : Bool × List (List Nat × List Nat):=(true,[([],[]),([],[]),([],[]),([1,2],[1,2]),([],[]),([0,3,4],[0,3,4]),([5,5],[5]),([6],[6]),([7,6],[6,7]),([8,6],[6,8]),([9,6],[6,9]),([6],[6]),([6],[6]),([6],[6]),([12,13,6],[6,12,13]),([6],[6]),([11,14,15,6,6],[6,11,14,15]),([10,16,6],[6,10,16]),([17,6],[6,17]),([6],[6]),([19,6],[6,19]),([18,20,6],[6,18,20]),([6,21],[6,21])])
def spec_Fastest.B17 : List Nat:=[0,0,0,6,0,31,63,127,255,511,1023,127,127,127,12415,127,63615,131071,262143,127,524415,2097151,4194303]
theorem spec_Fastest.tab17 : rtab .any (opsOf Try.f18 17) = spec_Fastest.T17:=by kernel_rfl
theorem spec_Fastest.bits17 : waitsOk spec_Fastest.T17.2 spec_Fastest.B17 = true:=by kernel_rfl
set_option maxHeartbeats 80000000 in
set_option maxRecDepth 100000 in
theorem spec_Fastest.calls0 (k : Nat) (s : GSt) (r1 : Bool) (r2 : Int) (r3 : List Int) (w : World) (hr : GRd s w) (h : spec_Fastest.f k s.l0 s.l1 s.tr s.en s.de s.ac s.x s.sh = some (r1,r2,r3)) :
  Calls Try.prog 18 #[.agg #[.slice s.A0 s.l0.length s.c0,.slice s.A1 s.l1.length s.c1,.int .i64 s.tr,.int .i64 s.en,.int .i64 s.de],.int .i64 s.ac,.int .i64 s.x,.int .i64 s.sh] w fun e w' => ∃ v_ : Value,e = .returned (.agg #[.bool r1,.int .i64 r2,v_])∧Kd.R (Kd.int .i64) 3 w' w.heap.size (fun _ => True) v_ r3∧Below w.heap.size w w':=by
 have hu26:=Try.underlying26;have hu72:=Try.underlying72;have hu41:=Try.underlying41;have HR:=Am hr;clear hr;have HB:=Am (Below.refl w.heap.size w);have H:=h;clear h;unfold spec_Fastest.f at H;replace H:=Option.bind_eq_some_iff.mp H;obtain ⟨bg,AG0,H⟩:=H;have AG:=Am AG0;clear AG0
 go_enter Try.func18,Try.ntmps18
 cases bg with
 | false =>
  rw [if_neg (by decide)] at H;simp only [Option.some.injEq,Prod.mk.injEq] at H;obtain ⟨rfl,rfl,rfl⟩:=H
  go_wp2_with (first|((with_reducible refine gate_dst (N:=4) rfl ?_);refine box_event ?hg (N:=4) ?hd (cs:=#[.slice s.A0 s.l0.length s.c0,.slice s.A1 s.l1.length s.c1,.int .i64 s.tr,.int .i64 s.en,.int .i64 s.de]) (t:=26) ?hr ?_;(case hd => rfl);(case hg => rfl);(case hr => first|(go_simp;done)|(go_simp;rfl));intro gp hg w1 hbox hb;have n0_:=Am (below_step (bL HB) hb);have GP:=Am (show w.heap.size ≤ gp from by rw [hg];exact below_size (bL HB));clear HB;have HB:=n0_;have BP:=Am hbox;clear n0_ hb hbox hg)|((with_reducible refine gate_dst (N:=8) rfl ?_);refine box_event ?hg (N:=8) ?hd (cs:=#[.bool false,.int .i64 0,.slice none 0 0]) (t:=41) ?hr ?_;(case hd => rfl);(case hg => rfl);(case hr => first|(go_simp;done)|(go_simp;rfl));intro gr hg w2 hbox hb;have n0_:=Am (below_step (bL HB) hb);have GR:=Am (show w.heap.size ≤ gr from by rw [hg];exact below_size (bL HB));have n1_:=Am (blk_below (g:=gp) (o:=.cells #[.slice s.A0 s.l0.length s.c0,.slice s.A1 s.l1.length s.c1,.int .i64 s.tr,.int .i64 s.en,.int .i64 s.de] 26 (0,0)) (kL BP) hb);have NPR:=Am (show gr ≠ gp from by rw [hg];exact Nat.ne_of_gt (blk_lt (g:=gp) (o:=.cells #[.slice s.A0 s.l0.length s.c0,.slice s.A1 s.l1.length s.c1,.int .i64 s.tr,.int .i64 s.en,.int .i64 s.de] 26 (0,0)) (kL BP)));clear HB BP;have HB:=n0_;have BP:=n1_;have BR:=Am hbox;clear n0_ n1_ hb hbox hg;have hcp0 : w2.cell? ⟨gp,0,none⟩ = some (.slice s.A0 s.l0.length s.c0):=(kC BP.out 0).trans rfl;have hcp1 : w2.cell? ⟨gp,1,none⟩ = some (.slice s.A1 s.l1.length s.c1):=(kC BP.out 1).trans rfl;have hcp2 : w2.cell? ⟨gp,2,none⟩ = some (.int .i64 s.tr):=(kC BP.out 2).trans rfl;have hcp3 : w2.cell? ⟨gp,3,none⟩ = some (.int .i64 s.en):=(kC BP.out 3).trans rfl;have hcp4 : w2.cell? ⟨gp,4,none⟩ = some (.int .i64 s.de):=(kC BP.out 4).trans rfl;have hfp0:=kF BP.out 0;have hfp1:=kF BP.out 1;have hfp2:=kF BP.out 2;have hfp3:=kF BP.out 3;have hfp4:=kF BP.out 4;have hcr0 : w2.cell? ⟨gr,0,none⟩ = some (.bool false):=(kC BR.out 0).trans rfl;have hcr1 : w2.cell? ⟨gr,1,none⟩ = some (.int .i64 0):=(kC BR.out 1).trans rfl;have hcr2 : w2.cell? ⟨gr,2,none⟩ = some (.slice none 0 0):=(kC BR.out 2).trans rfl;have hfr0:=kF BR.out 0;have hfr1:=kF BR.out 1;have hfr2:=kF BR.out 2)|((with_reducible refine gate_callee (f:=44) rfl ?_);(try (refine gate_guard (by rfl) ?_;dsimp only));refine goesL_ (some 20) rfl rfl Try.func44 (by kernel_rfl) rfl #[.agg #[.slice s.A0 s.l0.length s.c0,.slice s.A1 s.l1.length s.c1,.int .i64 s.tr,.int .i64 s.en,.int .i64 s.de],.int .i64 s.ac,.int .i64 s.x,.int .i64 s.sh] rfl lA ?_;(with_reducible refine (spec_l4good.calls k _ _ s.l0 _ _ s.l1 s.tr s.en s.de s.ac s.x s.sh false _ (GRd.below HR.out (bL HB)).k0 HR.out.n0 (GRd.below HR.out (bL HB)).k1 HR.out.n1 AG.out).mono ?_);rintro e w3 ⟨rfl,hb⟩;refine ⟨_,rfl,?_⟩;have n0_:=Am (below_step (bL HB) hb);have n1_:=Am (blk_below (g:=gp) (o:=.cells #[.slice s.A0 s.l0.length s.c0,.slice s.A1 s.l1.length s.c1,.int .i64 s.tr,.int .i64 s.en,.int .i64 s.de] 26 (0,0)) (kL BP) hb);have n2_:=Am (blk_below (g:=gr) (o:=.cells #[.bool false,.int .i64 0,.slice none 0 0] 41 (0,0)) (kL BR) hb);clear HB BP BR;have HB:=n0_;have BP:=n1_;have BR:=n2_;clear n0_ n1_ n2_ hb;have hcpp0 : w3.cell? ⟨gp,0,none⟩ = some (.slice s.A0 s.l0.length s.c0):=(kC BP.out 0).trans rfl;have hcpp1 : w3.cell? ⟨gp,1,none⟩ = some (.slice s.A1 s.l1.length s.c1):=(kC BP.out 1).trans rfl;have hcpp2 : w3.cell? ⟨gp,2,none⟩ = some (.int .i64 s.tr):=(kC BP.out 2).trans rfl;have hcpp3 : w3.cell? ⟨gp,3,none⟩ = some (.int .i64 s.en):=(kC BP.out 3).trans rfl;have hcpp4 : w3.cell? ⟨gp,4,none⟩ = some (.int .i64 s.de):=(kC BP.out 4).trans rfl;have hfpp0:=kF BP.out 0;have hfpp1:=kF BP.out 1;have hfpp2:=kF BP.out 2;have hfpp3:=kF BP.out 3;have hfpp4:=kF BP.out 4;have hcrr0 : w3.cell? ⟨gr,0,none⟩ = some (.bool false):=(kC BR.out 0).trans rfl;have hcrr1 : w3.cell? ⟨gr,1,none⟩ = some (.int .i64 0):=(kC BR.out 1).trans rfl;have hcrr2 : w3.cell? ⟨gr,2,none⟩ = some (.slice none 0 0):=(kC BR.out 2).trans rfl;have hfrr0:=kF BR.out 0;have hfrr1:=kF BR.out 1;have hfrr2:=kF BR.out 2))
  refine bodyPost_ret (results_cell_row rfl _ _ gr 41 #[.bool false,.int .i64 0,.slice none 0 0] (0,0) _ rfl (by (with_reducible repeat (first|refine kN ?_ _|refine kD ?_|refine kA ?_ _));refine blk_put (cs:=#[.bool false,.int .i64 0,.slice none 0 0]) ?_ 2 _ rfl;(with_reducible repeat (first|refine kN ?_ _|refine kD ?_|refine kA ?_ _));refine blk_put (cs:=#[.bool false,.int .i64 0,.slice none 0 0]) ?_ 1 _ rfl;(with_reducible repeat (first|refine kN ?_ _|refine kD ?_|refine kA ?_ _));refine blk_put (cs:=#[.bool false,.int .i64 0,.slice none 0 0]) ?_ 0 _ rfl;(with_reducible repeat (first|refine kN ?_ _|refine kD ?_|refine kA ?_ _));skip;exact BR.out) Try.underlying41 rfl (by kernel_rfl)) rfl ?_;exact ⟨.slice none 0 0,by rfl,Kd.R_nil _ _ _ _ _,by repeat (first|(with_reducible first|exact HB.out|apply bA|apply bN|apply bD|refine bS ?_ GR.out)|exact HB.out)⟩
 | true =>
  rw [if_pos rfl] at H;replace H:=Option.bind_eq_some_iff.mp H;obtain ⟨Li,AF0,H⟩:=H;have AF:=Am AF0;clear AF0
  by_cases c1 : 0 < (Li.length : Int)
  case neg => rw [if_neg c1] at H;cases H
  rw [if_pos c1] at H;have C1:=Am c1;clear c1;have H0:=Am H;clear H
  go_wp2_with (first|((with_reducible refine gate_dst (N:=4) rfl ?_);refine box_event ?hg (N:=4) ?hd (cs:=#[.slice s.A0 s.l0.length s.c0,.slice s.A1 s.l1.length s.c1,.int .i64 s.tr,.int .i64 s.en,.int .i64 s.de]) (t:=26) ?hr ?_;(case hd => rfl);(case hg => rfl);(case hr => first|(go_simp;done)|(go_simp;rfl));intro gp hg w1 hbox hb;have n0_:=Am (below_step (bL HB) hb);have GP:=Am (show w.heap.size ≤ gp from by rw [hg];exact below_size (bL HB));clear HB;have HB:=n0_;have BP:=Am hbox;clear n0_ hb hbox hg)|((with_reducible refine gate_dst (N:=8) rfl ?_);refine box_event ?hg (N:=8) ?hd (cs:=#[.bool false,.int .i64 0,.slice none 0 0]) (t:=41) ?hr ?_;(case hd => rfl);(case hg => rfl);(case hr => first|(go_simp;done)|(go_simp;rfl));intro gr hg w2 hbox hb;have n0_:=Am (below_step (bL HB) hb);have GR:=Am (show w.heap.size ≤ gr from by rw [hg];exact below_size (bL HB));have n1_:=Am (blk_below (g:=gp) (o:=.cells #[.slice s.A0 s.l0.length s.c0,.slice s.A1 s.l1.length s.c1,.int .i64 s.tr,.int .i64 s.en,.int .i64 s.de] 26 (0,0)) (kL BP) hb);have NPR:=Am (show gr ≠ gp from by rw [hg];exact Nat.ne_of_gt (blk_lt (g:=gp) (o:=.cells #[.slice s.A0 s.l0.length s.c0,.slice s.A1 s.l1.length s.c1,.int .i64 s.tr,.int .i64 s.en,.int .i64 s.de] 26 (0,0)) (kL BP)));clear HB BP;have HB:=n0_;have BP:=n1_;have BR:=Am hbox;clear n0_ n1_ hb hbox hg;have hcp0 : w2.cell? ⟨gp,0,none⟩ = some (.slice s.A0 s.l0.length s.c0):=(kC BP.out 0).trans rfl;have hcp1 : w2.cell? ⟨gp,1,none⟩ = some (.slice s.A1 s.l1.length s.c1):=(kC BP.out 1).trans rfl;have hcp2 : w2.cell? ⟨gp,2,none⟩ = some (.int .i64 s.tr):=(kC BP.out 2).trans rfl;have hcp3 : w2.cell? ⟨gp,3,none⟩ = some (.int .i64 s.en):=(kC BP.out 3).trans rfl;have hcp4 : w2.cell? ⟨gp,4,none⟩ = some (.int .i64 s.de):=(kC BP.out 4).trans rfl;have hfp0:=kF BP.out 0;have hfp1:=kF BP.out 1;have hfp2:=kF BP.out 2;have hfp3:=kF BP.out 3;have hfp4:=kF BP.out 4;have hcr0 : w2.cell? ⟨gr,0,none⟩ = some (.bool false):=(kC BR.out 0).trans rfl;have hcr1 : w2.cell? ⟨gr,1,none⟩ = some (.int .i64 0):=(kC BR.out 1).trans rfl;have hcr2 : w2.cell? ⟨gr,2,none⟩ = some (.slice none 0 0):=(kC BR.out 2).trans rfl;have hfr0:=kF BR.out 0;have hfr1:=kF BR.out 1;have hfr2:=kF BR.out 2)|((with_reducible refine gate_callee (f:=44) rfl ?_);(try (refine gate_guard (by rfl) ?_;dsimp only));refine goesL_ (some 20) rfl rfl Try.func44 (by kernel_rfl) rfl #[.agg #[.slice s.A0 s.l0.length s.c0,.slice s.A1 s.l1.length s.c1,.int .i64 s.tr,.int .i64 s.en,.int .i64 s.de],.int .i64 s.ac,.int .i64 s.x,.int .i64 s.sh] rfl lA ?_;(with_reducible refine (spec_l4good.calls k _ _ s.l0 _ _ s.l1 s.tr s.en s.de s.ac s.x s.sh true _ (GRd.below HR.out (bL HB)).k0 HR.out.n0 (GRd.below HR.out (bL HB)).k1 HR.out.n1 AG.out).mono ?_);rintro e w3 ⟨rfl,hb⟩;refine ⟨_,rfl,?_⟩;have n0_:=Am (below_step (bL HB) hb);have n1_:=Am (blk_below (g:=gp) (o:=.cells #[.slice s.A0 s.l0.length s.c0,.slice s.A1 s.l1.length s.c1,.int .i64 s.tr,.int .i64 s.en,.int .i64 s.de] 26 (0,0)) (kL BP) hb);have n2_:=Am (blk_below (g:=gr) (o:=.cells #[.bool false,.int .i64 0,.slice none 0 0] 41 (0,0)) (kL BR) hb);clear HB BP BR;have HB:=n0_;have BP:=n1_;have BR:=n2_;clear n0_ n1_ n2_ hb;have hcpp0 : w3.cell? ⟨gp,0,none⟩ = some (.slice s.A0 s.l0.length s.c0):=(kC BP.out 0).trans rfl;have hcpp1 : w3.cell? ⟨gp,1,none⟩ = some (.slice s.A1 s.l1.length s.c1):=(kC BP.out 1).trans rfl;have hcpp2 : w3.cell? ⟨gp,2,none⟩ = some (.int .i64 s.tr):=(kC BP.out 2).trans rfl;have hcpp3 : w3.cell? ⟨gp,3,none⟩ = some (.int .i64 s.en):=(kC BP.out 3).trans rfl;have hcpp4 : w3.cell? ⟨gp,4,none⟩ = some (.int .i64 s.de):=(kC BP.out 4).trans rfl;have hfpp0:=kF BP.out 0;have hfpp1:=kF BP.out 1;have hfpp2:=kF BP.out 2;have hfpp3:=kF BP.out 3;have hfpp4:=kF BP.out 4;have hcrr0 : w3.cell? ⟨gr,0,none⟩ = some (.bool false):=(kC BR.out 0).trans rfl;have hcrr1 : w3.cell? ⟨gr,1,none⟩ = some (.int .i64 0):=(kC BR.out 1).trans rfl;have hcrr2 : w3.cell? ⟨gr,2,none⟩ = some (.slice none 0 0):=(kC BR.out 2).trans rfl;have hfrr0:=kF BR.out 0;have hfrr1:=kF BR.out 1;have hfrr2:=kF BR.out 2)|((with_reducible refine gate_dst (N:=28) rfl ?_);refine box_event ?hg (N:=28) ?hd (cs:=#[.slice s.A0 s.l0.length s.c0,.slice s.A1 s.l1.length s.c1,.int .i64 s.tr,.int .i64 s.en,.int .i64 s.de,.int .i64 s.ac,.int .i64 s.x,.int .i64 s.sh,.slice none 0 0]) (t:=72) ?hr ?_;(case hd => rfl);(case hg => rfl);(case hr => first|(go_simp;done)|(go_simp;rfl));intro g hg w4 hbox hb;have n0_:=Am (below_step (bL HB) hb);have GG:=Am (show w.heap.size ≤ g from by rw [hg];exact below_size (bL HB));have n1_:=Am (blk_below (g:=gp) (o:=.cells #[.slice s.A0 s.l0.length s.c0,.slice s.A1 s.l1.length s.c1,.int .i64 s.tr,.int .i64 s.en,.int .i64 s.de] 26 (0,0)) (kL BP) hb);have n2_:=Am (blk_below (g:=gr) (o:=.cells #[.bool false,.int .i64 0,.slice none 0 0] 41 (0,0)) (kL BR) hb);have NPG:=Am (show gp ≠ g from by rw [hg];exact Nat.ne_of_lt (blk_lt (g:=gp) (o:=.cells #[.slice s.A0 s.l0.length s.c0,.slice s.A1 s.l1.length s.c1,.int .i64 s.tr,.int .i64 s.en,.int .i64 s.de] 26 (0,0)) (kL BP)));have NRG:=Am (show gr ≠ g from by rw [hg];exact Nat.ne_of_lt (blk_lt (g:=gr) (o:=.cells #[.bool false,.int .i64 0,.slice none 0 0] 41 (0,0)) (kL BR)));clear HB BP BR;have HB:=n0_;have BP:=n1_;have BR:=n2_;have BG:=Am hbox;clear n0_ n1_ n2_ hb hbox hg)|((with_reducible refine gate_callee (f:=49) rfl ?_);(try (refine gate_guard (by rfl) ?_;dsimp only));refine goesL_ (some 30) rfl rfl Try.func49 (by kernel_rfl) rfl #[.pointer (some ⟨g,0,none⟩)] rfl lA ?_;(with_reducible refine (spec_fill.calls k s g (.slice none 0 0) Li w _ (kL BG) HR.out (bL HB) GG.out AF.out).mono ?_);rintro e w5 ⟨rfl,gl,cl,n,vl,li,hfe⟩;refine ⟨_,rfl,?_⟩;have HS:=Am (SZ.start (kL BP) (kL BR) hfe GP.out GR.out NPG.out NRG.out (below_size (bL HB)));clear HB BP BR BG hfe))
  have n0_:=Am (show Li.length = n from HS.out.nn);have NN:=n0_;clear n0_
  obtain ⟨k0,hk0⟩ : ∃ j : Int,rd Li 0 = j:=⟨_,rfl⟩
  have HK0:=Am hk0;have H:=H0.out;clear H0;rw [hk0] at H;clear hk0;have QN:=Am (show 0 < n by have:=C1.out;have:=NN.out;omega)
  by_cases c2 : k0 < 0
  case pos =>
   rw [if_pos c2] at H;have c2b0 : decide (k0 < 0) = true:=decide_eq_true c2;clear c2;simp only [Option.some.injEq,Prod.mk.injEq] at H;obtain ⟨rfl,rfl,rfl⟩:=H;have p5 : ((0 : Int) ≤ 0) = True:=eq_true (by omega);have q5 : ((0 : Int) < (n : Int)) = True:=eq_true (by have:=QN.out;omega);have qi5 : (0 < n) = True:=eq_true QN.out;have n0_:=Am (SZ.drew HS.out);clear HS;have HS:=n0_;clear n0_;refine start_ (n:=9) (S:=fun w' => w'.cell? ⟨g,8,none⟩ = some (.slice (some ⟨gl,0,none⟩) n cl)∧w'.cell? ⟨gl,0,none⟩ = some (.int .i64 k0)) (ds:=[]) #[false,false,false,false,false,false,false,false,false] (by kernel_rfl) rfl rfl ⟨(kC HS.out.st 8).trans rfl,(by have h_:=(Kd.R_celln 0 HS.out.lf 0 (by omega) (by have:=QN.out;omega)).1;rw [show rdOf 0 Li 0 = rd Li 0 from rfl,HK0.out] at h_;exact h_)⟩ (fun hHeld => ?_);refine with_tabW spec_Fastest.tab7 spec_Fastest.bits7 (fun HT_ HW_ => ?_);generalize w5.drew = w7 at HS hHeld ⊢;refine pure_ (i:=0) (N:=some 31) (v:=?_) (a':=?_) #[true,false,false,false,false,false,false,false,false] rfl rfl (any_of HT_.out (by kernel_rfl)) (fun _ _ _ h => h) (Or.inl ⟨by rfl,?_⟩) ?_ ?_;rotate_left
   ·intro w'
    go_simp
    with_reducible rfl
   rotate_left
   ·simp only [Act.put,pS]
    rfl
   refine pure_ (i:=1) (N:=some 32) (v:=?_) (a':=?_) #[true,true,false,false,false,false,false,false,false] rfl rfl (any_of HT_.out (by kernel_rfl)) (fun _ _ _ h => h) (Or.inl ⟨by rfl,?_⟩) ?_ ?_;rotate_left
   ·intro w'
    go_simp
    with_reducible rfl
   rotate_left
   ·simp only [Act.put,pS]
    rfl
   refine pure_ (i:=2) (N:=some 33) (v:=?_) (a':=?_) #[true,true,true,false,false,false,false,false,false] rfl rfl (any_of HT_.out (by kernel_rfl)) (fun _ _ _ h => h) (Or.inl ⟨by rfl,?_⟩) ?_ ?_;rotate_left
   ·intro w'
    go_simp
    with_reducible rfl
   rotate_left
   ·simp only [Act.put,pS]
    rfl
   refine pure_ (i:=4) (N:=some 35) (v:=?_) (a':=?_) #[true,true,true,false,true,false,false,false,false] rfl rfl (any_of HT_.out (by kernel_rfl)) (fun _ _ _ h => h) (Or.inl ⟨by rfl,?_⟩) ?_ ?_;rotate_left
   ·intro w'
    go_simp
    with_reducible rfl
   rotate_left
   ·simp only [Act.put,pS]
    rfl
   refine take_ (i:=3) (N:=some 34) (v:=?_) (a':=?_) #[true,true,true,true,true,false,false,false,false] rfl rfl (take_ofW HT_.out HW_.out (by kernel_rfl)) (fun _ _ _ h => h) (Or.inl ⟨by rfl,?_⟩) hHeld ?_ ?_;rotate_left
   ·rintro w' ⟨s0,s1⟩
    go_simp
    with_reducible rfl
   rotate_left
   ·simp only [Act.put,pS]
    rfl
   refine one_ (i:=5) (N:=some 36) #[true,true,true,true,true,true,false,false,false] rfl rfl (one_of HT_.out (by kernel_rfl)) (by decide) (fun K hK => ?_);refine goes_ Try.func50 (by kernel_rfl) rfl #[.pointer (some ⟨g,0,none⟩),.int .i64 0,.int .i64 0] (by rfl) rfl rfl lA ?_
   with_reducible refine (l4_at.calls (.pointer (some ⟨g,0,none⟩)) 0 0 0 _ (by unfold wrap64;omega)).mono ?_
   rintro e w8 ⟨rfl,hb⟩;refine ⟨_,rfl,?_⟩;have n0_:=Am (SZ.below HS.out hb);clear HS;have HS:=n0_;clear n0_ hb;refine hK.out _ _ ⟨(kC HS.out.st 8).trans rfl,(by have h_:=(Kd.R_celln 0 HS.out.lf 0 (by omega) (by have:=QN.out;omega)).1;rw [show rdOf 0 Li 0 = rd Li 0 from rfl,HK0.out] at h_;exact h_)⟩ (fun hHeld => ?_);clear hK K;refine norm_ (a':=?_) ?_ ?_;rotate_left
   ·show Act.put _ (some 36) _ = _
    simp only [Act.put,pS]
    rfl
   refine pure_ (i:=6) (N:=some 37) (v:=?_) (a':=?_) #[true,true,true,true,true,true,true,false,false] rfl rfl (any_of HT_.out (by kernel_rfl)) (fun _ _ _ h => h) (Or.inl ⟨by rfl,?_⟩) ?_ ?_;rotate_left
   ·intro w'
    go_simp
    with_reducible rfl
   rotate_left
   ·simp only [Act.put,pS]
    rfl
   refine take_ (i:=7) (N:=some 38) (v:=?_) (a':=?_) #[true,true,true,true,true,true,true,true,false] rfl rfl (take_ofW HT_.out HW_.out (by kernel_rfl)) (fun _ _ _ h => h) (Or.inl ⟨by rfl,?_⟩) hHeld ?_ ?_;rotate_left
   ·rintro w' ⟨s0,s1⟩
    go_simp
    with_reducible rfl
   rotate_left
   ·simp only [Act.put,pS]
    rfl
   refine pure_ (i:=8) (N:=some 12) (v:=?_) (a':=?_) #[true,true,true,true,true,true,true,true,true] rfl rfl (any_of HT_.out (by kernel_rfl)) (fun _ _ _ h => h) (Or.inl ⟨by rfl,?_⟩) ?_ ?_;rotate_left
   ·intro w'
    go_simp
    with_reducible rfl
   rotate_left
   ·simp only [Act.put,pS]
    rfl
   refine done_ (done_of HT_.out (by kernel_rfl)) ?_;have hcrz0 : w8.cell? ⟨gr,0,none⟩ = some (.bool false):=(kC HS.out.rb 0).trans rfl;have hcrz1 : w8.cell? ⟨gr,1,none⟩ = some (.int .i64 0):=(kC HS.out.rb 1).trans rfl;have hcrz2 : w8.cell? ⟨gr,2,none⟩ = some (.slice none 0 0):=(kC HS.out.rb 2).trans rfl;have hfrz0:=kF HS.out.rb 0;have hfrz1:=kF HS.out.rb 1;have hfrz2:=kF HS.out.rb 2;go_wp2;refine bodyPost_ret (results_cell_row rfl _ _ gr 41 #[.bool false,.int .i64 0,.slice none 0 0] (0,0) _ rfl (by (with_reducible repeat (first|refine kN ?_ _|refine kD ?_|refine kA ?_ _));refine blk_put (cs:=#[.bool false,.int .i64 0,.slice none 0 0]) ?_ 2 _ rfl;(with_reducible repeat (first|refine kN ?_ _|refine kD ?_|refine kA ?_ _));refine blk_put (cs:=#[.bool false,.int .i64 0,.slice none 0 0]) ?_ 1 _ rfl;(with_reducible repeat (first|refine kN ?_ _|refine kD ?_|refine kA ?_ _));refine blk_put (cs:=#[.bool false,.int .i64 0,.slice none 0 0]) ?_ 0 _ rfl;(with_reducible repeat (first|refine kN ?_ _|refine kD ?_|refine kA ?_ _));skip;exact HS.out.rb) Try.underlying41 rfl (by kernel_rfl)) rfl ?_;exact ⟨.slice none 0 0,by rfl,Kd.R_nil _ _ _ _ _,by repeat (first|(with_reducible first|exact HS.out.bw|apply bA|apply bN|apply bD|refine bS ?_ HS.out.nr)|exact HS.out.bw)⟩
  case neg =>
   rw [if_neg c2] at H;have c2b0 : decide (k0 < 0) = false:=decide_eq_false c2;clear c2
   by_cases c3 : k0 > 2000
   case pos =>
    rw [if_pos c3] at H;have c3b0 : decide (k0 > 2000) = true:=decide_eq_true c3;clear c3;simp only [Option.some.injEq,Prod.mk.injEq] at H;obtain ⟨rfl,rfl,rfl⟩:=H;have p5 : ((0 : Int) ≤ 0) = True:=eq_true (by omega);have q5 : ((0 : Int) < (n : Int)) = True:=eq_true (by have:=QN.out;omega);have qi5 : (0 < n) = True:=eq_true QN.out;have n0_:=Am (SZ.drew HS.out);clear HS;have HS:=n0_;clear n0_;refine start_ (n:=9) (S:=fun w' => w'.cell? ⟨g,8,none⟩ = some (.slice (some ⟨gl,0,none⟩) n cl)∧w'.cell? ⟨gl,0,none⟩ = some (.int .i64 k0)) (ds:=[]) #[false,false,false,false,false,false,false,false,false] (by kernel_rfl) rfl rfl ⟨(kC HS.out.st 8).trans rfl,(by have h_:=(Kd.R_celln 0 HS.out.lf 0 (by omega) (by have:=QN.out;omega)).1;rw [show rdOf 0 Li 0 = rd Li 0 from rfl,HK0.out] at h_;exact h_)⟩ (fun hHeld => ?_);refine with_tabW spec_Fastest.tab7 spec_Fastest.bits7 (fun HT_ HW_ => ?_);generalize w5.drew = w7 at HS hHeld ⊢;refine pure_ (i:=0) (N:=some 31) (v:=?_) (a':=?_) #[true,false,false,false,false,false,false,false,false] rfl rfl (any_of HT_.out (by kernel_rfl)) (fun _ _ _ h => h) (Or.inl ⟨by rfl,?_⟩) ?_ ?_;rotate_left
    ·intro w'
     go_simp
     with_reducible rfl
    rotate_left
    ·simp only [Act.put,pS]
     rfl
    refine pure_ (i:=1) (N:=some 32) (v:=?_) (a':=?_) #[true,true,false,false,false,false,false,false,false] rfl rfl (any_of HT_.out (by kernel_rfl)) (fun _ _ _ h => h) (Or.inl ⟨by rfl,?_⟩) ?_ ?_;rotate_left
    ·intro w'
     go_simp
     with_reducible rfl
    rotate_left
    ·simp only [Act.put,pS]
     rfl
    refine pure_ (i:=2) (N:=some 33) (v:=?_) (a':=?_) #[true,true,true,false,false,false,false,false,false] rfl rfl (any_of HT_.out (by kernel_rfl)) (fun _ _ _ h => h) (Or.inl ⟨by rfl,?_⟩) ?_ ?_;rotate_left
    ·intro w'
     go_simp
     with_reducible rfl
    rotate_left
    ·simp only [Act.put,pS]
     rfl
    refine pure_ (i:=4) (N:=some 35) (v:=?_) (a':=?_) #[true,true,true,false,true,false,false,false,false] rfl rfl (any_of HT_.out (by kernel_rfl)) (fun _ _ _ h => h) (Or.inl ⟨by rfl,?_⟩) ?_ ?_;rotate_left
    ·intro w'
     go_simp
     with_reducible rfl
    rotate_left
    ·simp only [Act.put,pS]
     rfl
    refine take_ (i:=3) (N:=some 34) (v:=?_) (a':=?_) #[true,true,true,true,true,false,false,false,false] rfl rfl (take_ofW HT_.out HW_.out (by kernel_rfl)) (fun _ _ _ h => h) (Or.inl ⟨by rfl,?_⟩) hHeld ?_ ?_;rotate_left
    ·rintro w' ⟨s0,s1⟩
     go_simp
     with_reducible rfl
    rotate_left
    ·simp only [Act.put,pS]
     rfl
    refine one_ (i:=5) (N:=some 36) #[true,true,true,true,true,true,false,false,false] rfl rfl (one_of HT_.out (by kernel_rfl)) (by decide) (fun K hK => ?_);refine goes_ Try.func50 (by kernel_rfl) rfl #[.pointer (some ⟨g,0,none⟩),.int .i64 0,.int .i64 0] (by rfl) rfl rfl lA ?_
    with_reducible refine (l4_at.calls (.pointer (some ⟨g,0,none⟩)) 0 0 0 _ (by unfold wrap64;omega)).mono ?_
    rintro e w8 ⟨rfl,hb⟩;refine ⟨_,rfl,?_⟩;have n0_:=Am (SZ.below HS.out hb);clear HS;have HS:=n0_;clear n0_ hb;refine hK.out _ _ ⟨(kC HS.out.st 8).trans rfl,(by have h_:=(Kd.R_celln 0 HS.out.lf 0 (by omega) (by have:=QN.out;omega)).1;rw [show rdOf 0 Li 0 = rd Li 0 from rfl,HK0.out] at h_;exact h_)⟩ (fun hHeld => ?_);clear hK K;refine norm_ (a':=?_) ?_ ?_;rotate_left
    ·show Act.put _ (some 36) _ = _
     simp only [Act.put,pS]
     rfl
    refine pure_ (i:=6) (N:=some 37) (v:=?_) (a':=?_) #[true,true,true,true,true,true,true,false,false] rfl rfl (any_of HT_.out (by kernel_rfl)) (fun _ _ _ h => h) (Or.inl ⟨by rfl,?_⟩) ?_ ?_;rotate_left
    ·intro w'
     go_simp
     with_reducible rfl
    rotate_left
    ·simp only [Act.put,pS]
     rfl
    refine take_ (i:=7) (N:=some 38) (v:=?_) (a':=?_) #[true,true,true,true,true,true,true,true,false] rfl rfl (take_ofW HT_.out HW_.out (by kernel_rfl)) (fun _ _ _ h => h) (Or.inl ⟨by rfl,?_⟩) hHeld ?_ ?_;rotate_left
    ·rintro w' ⟨s0,s1⟩
     go_simp
     with_reducible rfl
    rotate_left
    ·simp only [Act.put,pS]
     rfl
    refine pure_ (i:=8) (N:=some 12) (v:=?_) (a':=?_) #[true,true,true,true,true,true,true,true,true] rfl rfl (any_of HT_.out (by kernel_rfl)) (fun _ _ _ h => h) (Or.inl ⟨by rfl,?_⟩) ?_ ?_;rotate_left
    ·intro w'
     go_simp
     with_reducible rfl
    rotate_left
    ·simp only [Act.put,pS]
     rfl
    refine done_ (done_of HT_.out (by kernel_rfl)) ?_;have hcrz0 : w8.cell? ⟨gr,0,none⟩ = some (.bool false):=(kC HS.out.rb 0).trans rfl;have hcrz1 : w8.cell? ⟨gr,1,none⟩ = some (.int .i64 0):=(kC HS.out.rb 1).trans rfl;have hcrz2 : w8.cell? ⟨gr,2,none⟩ = some (.slice none 0 0):=(kC HS.out.rb 2).trans rfl;have hfrz0:=kF HS.out.rb 0;have hfrz1:=kF HS.out.rb 1;have hfrz2:=kF HS.out.rb 2;go_wp2;refine bodyPost_ret (results_cell_row rfl _ _ gr 41 #[.bool false,.int .i64 0,.slice none 0 0] (0,0) _ rfl (by (with_reducible repeat (first|refine kN ?_ _|refine kD ?_|refine kA ?_ _));refine blk_put (cs:=#[.bool false,.int .i64 0,.slice none 0 0]) ?_ 2 _ rfl;(with_reducible repeat (first|refine kN ?_ _|refine kD ?_|refine kA ?_ _));refine blk_put (cs:=#[.bool false,.int .i64 0,.slice none 0 0]) ?_ 1 _ rfl;(with_reducible repeat (first|refine kN ?_ _|refine kD ?_|refine kA ?_ _));refine blk_put (cs:=#[.bool false,.int .i64 0,.slice none 0 0]) ?_ 0 _ rfl;(with_reducible repeat (first|refine kN ?_ _|refine kD ?_|refine kA ?_ _));skip;exact HS.out.rb) Try.underlying41 rfl (by kernel_rfl)) rfl ?_;exact ⟨.slice none 0 0,by rfl,Kd.R_nil _ _ _ _ _,by repeat (first|(with_reducible first|exact HS.out.bw|apply bA|apply bN|apply bD|refine bS ?_ HS.out.nr)|exact HS.out.bw)⟩
   case neg =>
    rw [if_neg c3] at H;have c3b0 : decide (k0 > 2000) = false:=decide_eq_false c3;clear c3;replace H:=Option.bind_eq_some_iff.mp H;obtain ⟨o3,AO0,H⟩:=H;have AO:=Am AO0;clear AO0;simp only [Option.some.injEq,Prod.mk.injEq] at H;obtain ⟨rfl,rfl,rfl⟩:=H;have p5 : ((0 : Int) ≤ 0) = True:=eq_true (by omega);have q5 : ((0 : Int) < (n : Int)) = True:=eq_true (by have:=QN.out;omega);have qi5 : (0 < n) = True:=eq_true QN.out;have n0_:=Am (SZ.drew HS.out);clear HS;have HS:=n0_;clear n0_;refine start_ (n:=9) (S:=fun w' => w'.cell? ⟨g,8,none⟩ = some (.slice (some ⟨gl,0,none⟩) n cl)∧w'.cell? ⟨gl,0,none⟩ = some (.int .i64 k0)) (ds:=[]) #[false,false,false,false,false,false,false,false,false] (by kernel_rfl) rfl rfl ⟨(kC HS.out.st 8).trans rfl,(by have h_:=(Kd.R_celln 0 HS.out.lf 0 (by omega) (by have:=QN.out;omega)).1;rw [show rdOf 0 Li 0 = rd Li 0 from rfl,HK0.out] at h_;exact h_)⟩ (fun hHeld => ?_);refine with_tabW spec_Fastest.tab7 spec_Fastest.bits7 (fun HT_ HW_ => ?_);generalize w5.drew = w7 at HS hHeld ⊢;refine pure_ (i:=0) (N:=some 31) (v:=?_) (a':=?_) #[true,false,false,false,false,false,false,false,false] rfl rfl (any_of HT_.out (by kernel_rfl)) (fun _ _ _ h => h) (Or.inl ⟨by rfl,?_⟩) ?_ ?_;rotate_left
    ·intro w'
     go_simp
     with_reducible rfl
    rotate_left
    ·simp only [Act.put,pS]
     rfl
    refine pure_ (i:=1) (N:=some 32) (v:=?_) (a':=?_) #[true,true,false,false,false,false,false,false,false] rfl rfl (any_of HT_.out (by kernel_rfl)) (fun _ _ _ h => h) (Or.inl ⟨by rfl,?_⟩) ?_ ?_;rotate_left
    ·intro w'
     go_simp
     with_reducible rfl
    rotate_left
    ·simp only [Act.put,pS]
     rfl
    refine pure_ (i:=2) (N:=some 33) (v:=?_) (a':=?_) #[true,true,true,false,false,false,false,false,false] rfl rfl (any_of HT_.out (by kernel_rfl)) (fun _ _ _ h => h) (Or.inl ⟨by rfl,?_⟩) ?_ ?_;rotate_left
    ·intro w'
     go_simp
     with_reducible rfl
    rotate_left
    ·simp only [Act.put,pS]
     rfl
    refine pure_ (i:=4) (N:=some 35) (v:=?_) (a':=?_) #[true,true,true,false,true,false,false,false,false] rfl rfl (any_of HT_.out (by kernel_rfl)) (fun _ _ _ h => h) (Or.inl ⟨by rfl,?_⟩) ?_ ?_;rotate_left
    ·intro w'
     go_simp
     with_reducible rfl
    rotate_left
    ·simp only [Act.put,pS]
     rfl
    refine take_ (i:=3) (N:=some 34) (v:=?_) (a':=?_) #[true,true,true,true,true,false,false,false,false] rfl rfl (take_ofW HT_.out HW_.out (by kernel_rfl)) (fun _ _ _ h => h) (Or.inl ⟨by rfl,?_⟩) hHeld ?_ ?_;rotate_left
    ·rintro w' ⟨s0,s1⟩
     go_simp
     with_reducible rfl
    rotate_left
    ·simp only [Act.put,pS]
     rfl
    refine one_ (i:=5) (N:=some 36) #[true,true,true,true,true,true,false,false,false] rfl rfl (one_of HT_.out (by kernel_rfl)) (by decide) (fun K hK => ?_);refine goes_ Try.func50 (by kernel_rfl) rfl #[.pointer (some ⟨g,0,none⟩),.int .i64 0,.int .i64 0] (by rfl) rfl rfl lA ?_
    with_reducible refine (l4_at.calls (.pointer (some ⟨g,0,none⟩)) 0 0 0 _ (by unfold wrap64;omega)).mono ?_
    rintro e w8 ⟨rfl,hb⟩;refine ⟨_,rfl,?_⟩;have n0_:=Am (SZ.below HS.out hb);clear HS;have HS:=n0_;clear n0_ hb;refine hK.out _ _ ⟨(kC HS.out.st 8).trans rfl,(by have h_:=(Kd.R_celln 0 HS.out.lf 0 (by omega) (by have:=QN.out;omega)).1;rw [show rdOf 0 Li 0 = rd Li 0 from rfl,HK0.out] at h_;exact h_)⟩ (fun hHeld => ?_);clear hK K;refine norm_ (a':=?_) ?_ ?_;rotate_left
    ·show Act.put _ (some 36) _ = _
     simp only [Act.put,pS]
     rfl
    refine pure_ (i:=6) (N:=some 37) (v:=?_) (a':=?_) #[true,true,true,true,true,true,true,false,false] rfl rfl (any_of HT_.out (by kernel_rfl)) (fun _ _ _ h => h) (Or.inl ⟨by rfl,?_⟩) ?_ ?_;rotate_left
    ·intro w'
     go_simp
     with_reducible rfl
    rotate_left
    ·simp only [Act.put,pS]
     rfl
    refine take_ (i:=7) (N:=some 38) (v:=?_) (a':=?_) #[true,true,true,true,true,true,true,true,false] rfl rfl (take_ofW HT_.out HW_.out (by kernel_rfl)) (fun _ _ _ h => h) (Or.inl ⟨by rfl,?_⟩) hHeld ?_ ?_;rotate_left
    ·rintro w' ⟨s0,s1⟩
     go_simp
     with_reducible rfl
    rotate_left
    ·simp only [Act.put,pS]
     rfl
    refine pure_ (i:=8) (N:=some 12) (v:=?_) (a':=?_) #[true,true,true,true,true,true,true,true,true] rfl rfl (any_of HT_.out (by kernel_rfl)) (fun _ _ _ h => h) (Or.inl ⟨by rfl,?_⟩) ?_ ?_;rotate_left
    ·intro w'
     go_simp
     with_reducible rfl
    rotate_left
    ·simp only [Act.put,pS]
     rfl
    refine done_ (done_of HT_.out (by kernel_rfl)) ?_
    go_wp2_with (first|((with_reducible refine gate_dst (N:=13) rfl ?_);refine box_event ?hg (N:=13) ?hd (cs:=#[.bool false,.int .i64 0,.slice none 0 0]) (t:=41) ?hr ?_;(case hd => rfl);(case hg => rfl);(case hr => first|(go_simp;done)|(go_simp;rfl));intro go hg w9 hbox hb;have n0_:=Am (SZ.below (by (with_reducible repeat (first|refine SZ.drewN ?_ _|refine SZ.drew ?_|refine SZ.alloc ?_ _));exact HS.out) hb);have NO:=Am (show w.heap.size ≤ go from by rw [hg];exact below_size (by repeat (first|(with_reducible first|exact HS.out.bw|apply bA|apply bN|apply bD|refine bS ?_ HS.out.nr)|exact HS.out.bw)));have OP:=Am (show go ≠ gp from by rw [hg];exact Nat.ne_of_gt (blk_lt (show SZ s w _ gp gr g gl cl n Li from by (with_reducible repeat (first|refine SZ.drewN ?_ _|refine SZ.drew ?_|refine SZ.alloc ?_ _));exact HS.out).pb));have OR_:=Am (show go ≠ gr from by rw [hg];exact Nat.ne_of_gt (blk_lt (show SZ s w _ gp gr g gl cl n Li from by (with_reducible repeat (first|refine SZ.drewN ?_ _|refine SZ.drew ?_|refine SZ.alloc ?_ _));exact HS.out).rb));have OG:=Am (show go ≠ g from by rw [hg];exact Nat.ne_of_gt (blk_lt (show SZ s w _ gp gr g gl cl n Li from by (with_reducible repeat (first|refine SZ.drewN ?_ _|refine SZ.drew ?_|refine SZ.alloc ?_ _));exact HS.out).st));have OL:=Am (show go ≠ gl from by rw [hg];exact Nat.ne_of_gt (Kd.R_lt (show SZ s w _ gp gr g gl cl n Li from by (with_reducible repeat (first|refine SZ.drewN ?_ _|refine SZ.drew ?_|refine SZ.alloc ?_ _));exact HS.out).lf gl (by simp [Value.ownBlock])));have BO:=Am hbox;clear HS;have HS:=n0_;clear n0_ hb hbox hg;have hcro0 : w9.cell? ⟨go,0,none⟩ = some (.bool false):=(kC BO.out 0).trans rfl;have hcro1 : w9.cell? ⟨go,1,none⟩ = some (.int .i64 0):=(kC BO.out 1).trans rfl;have hcro2 : w9.cell? ⟨go,2,none⟩ = some (.slice none 0 0):=(kC BO.out 2).trans rfl;have hfro0:=kF BO.out 0;have hfro1:=kF BO.out 1;have hfro2:=kF BO.out 2))
    go_loopg [10,11,12] k (fun kq v10 v11 v12 w' => ∃ (d v kk : Int) (vo : Value) (ou : List Int),v10 = .int .i64 d∧v11 = .int .i64 v∧v12 = .int .i64 kk∧As (sl0 s.l0 s.l1 s.tr s.en s.de s.ac s.x Li kq d v kk ou = some o3)∧As (kq ≤ k)∧As (SE s w w' gp gr g gl cl n Li go k0 vo vo ou))
    case atStart => exact ⟨0,0,_,.slice none 0 0,[],by first|rfl|(simp;done)|(simp [*];done),by first|rfl|(simp;done)|(simp [*];done),by first|rfl|(simp;done)|(simp [*];done),AO,⟨Nat.le_refl _⟩,⟨by refine SE.start ?q1 ?q2 NO.out OP.out OR_.out OG.out OL.out;(case q1 => (repeat (first|exact HS.out|refine SZ.set ?_ NO.out OP.out OR_.out OG.out OL.out _ _|refine SZ.drewN ?_ _|refine SZ.drew ?_|refine SZ.alloc ?_ _)));(case q2 => (with_reducible repeat (first|refine kN ?_ _|refine kD ?_|refine kA ?_ _));refine blk_put (cs:=#[.bool true,.int .i64 k0,.slice none 0 0]) ?_ 2 _ rfl;(with_reducible repeat (first|refine kN ?_ _|refine kD ?_|refine kA ?_ _));refine blk_put (cs:=#[.bool true,.int .i64 0,.slice none 0 0]) ?_ 1 _ rfl;(with_reducible repeat (first|refine kN ?_ _|refine kD ?_|refine kA ?_ _));refine blk_put (cs:=#[.bool false,.int .i64 0,.slice none 0 0]) ?_ 0 _ rfl;(with_reducible repeat (first|refine kN ?_ _|refine kD ?_|refine kA ?_ _));exact BO.out)⟩⟩
    case round =>
     clear AO HS BO c2b0 c3b0 hcro0 hfro0 hcro1 hfro1 hcro2 hfro2;obtain ⟨d,v,kk,vo,ou,rfl,rfl,rfl,HA,HK1,HS⟩:=hrel
     cases gk with
     | zero => exact absurd HA.out (by simp [sl0])
     | succ k1 =>
     have H:=HA.out;clear HA;simp only [sl0] at H
     by_cases c5 : kk > 0
     case pos =>
      rw [if_pos c5] at H;have c5b0 : decide (kk > 0) = true:=decide_eq_true c5;clear c5;replace H:=Option.bind_eq_some_iff.mp H;obtain ⟨rt,AR0,H⟩:=H;have AR:=Am AR0;clear AR0;replace H:=Option.bind_eq_some_iff.mp H;obtain ⟨lo,AL0,H⟩:=H;have AL:=Am AL0;clear AL0;replace H:=Option.bind_eq_some_iff.mp H;obtain ⟨b,AB0,H⟩:=H;have AB:=Am AB0;clear AB0
      by_cases c6 : ou.length ≤ 1000000
      case neg => rw [if_neg c6] at H;cases H
      rw [if_pos c6] at H;have C6:=Am c6;clear c6;have H':=Am H;clear H
      go_wp2_with (first|((with_reducible refine gate_callee (f:=45) rfl ?_);(try (refine gate_guard (by rfl) ?_;dsimp only));refine goesL_ (some 55) rfl rfl Try.func45 (by kernel_rfl) rfl #[.pointer (some ⟨g,0,none⟩),.int .i64 d,.int .i64 v] rfl lA ?_;(with_reducible refine (l4_low.calls k1 s g (.slice (some ⟨gl,0,none⟩) n cl) d v rt lo _ (SZ.st (SE.sz (by (with_reducible repeat (first|refine SE.drewN ?_ _|refine SE.drew ?_|refine SE.alloc ?_ _));exact HS.out))) (SZ.grd (SE.sz (by (with_reducible repeat (first|refine SE.drewN ?_ _|refine SE.drew ?_|refine SE.alloc ?_ _));exact HS.out))) AR.out AL.out).mono ?_);rintro e w10 ⟨rfl,hb⟩;refine ⟨_,rfl,?_⟩;have n0_:=Am (SE.below (by (with_reducible repeat (first|refine SE.drewN ?_ _|refine SE.drew ?_|refine SE.alloc ?_ _));exact HS.out) hb);clear HS;have HS:=n0_;clear n0_ hb))
      go_loopg [14,15] k1 (fun kq v14 v15 w' => ∃ (best z : Int),v14 = .int .i64 best∧v15 = .int .i64 z∧As (sl1 s.l0 s.l1 s.tr s.en s.de s.x Li d (hiV s.ac v) kk kq z best = some b)∧As (kq ≤ k1)∧As (SE s w w' gp gr g gl cl n Li go k0 vo vo ou))
      case atStart => exact ⟨0,lo,by first|rfl|(simp;done)|(simp [*];done),by first|rfl|(simp;done)|(simp [*];done),AB,⟨Nat.le_refl _⟩,⟨by (with_reducible repeat (first|refine SE.drewN ?_ _|refine SE.drew ?_|refine SE.alloc ?_ _));exact HS.out⟩⟩
      case round =>
       clear AB HS c5b0;obtain ⟨best,z,rfl,rfl,HA,HK2,HS⟩:=hrel
       cases gk with
       | zero => exact absurd HA.out (by simp [sl1])
       | succ k2 =>
       have H:=HA.out;clear HA;simp only [sl1] at H
       obtain ⟨hi,hhi⟩ : ∃ j : Int,hiV s.ac v = j:=⟨_,rfl⟩
       rw [hhi] at H;have HHI:=Am hhi;clear hhi
       by_cases c7 : z ≤ hi
       case pos =>
        rw [if_pos c7] at H;have c7b0 : decide (z ≤ hi) = true:=decide_eq_true c7;clear c7;replace H:=Option.bind_eq_some_iff.mp H;obtain ⟨m,AM0,H⟩:=H;have AM:=Am AM0;clear AM0
        cases m with
        | false =>
         rw [if_neg (by decide)] at H;have H'':=Am H;clear H
         go_wp2_with (first|((with_reducible refine gate_callee (f:=46) rfl ?_);(try (refine gate_guard (by rfl) ?_;dsimp only));refine goesL_ (some 59) rfl rfl Try.func46 (by kernel_rfl) rfl #[.pointer (some ⟨g,0,none⟩),.int .i64 v] rfl lA ?_;(with_reducible refine (l4_high.calls s g (.slice (some ⟨gl,0,none⟩) n cl) v hi _ (SZ.st (SE.sz (by (with_reducible repeat (first|refine SE.drewN ?_ _|refine SE.drew ?_|refine SE.alloc ?_ _));exact HS.out))) HHI.out).mono ?_);rintro e w11 ⟨rfl,hb⟩;refine ⟨_,rfl,?_⟩;have n0_:=Am (SE.below (by (with_reducible repeat (first|refine SE.drewN ?_ _|refine SE.drew ?_|refine SE.alloc ?_ _));exact HS.out) hb);clear HS;have HS:=n0_;clear n0_ hb))
         have n0_:=Am (SE.drew HS.out);clear HS;have HS:=n0_;clear n0_;refine start_ (n:=23) (S:=fun w' => w'.cell? ⟨gp,0,none⟩ = some (.slice s.A0 s.l0.length s.c0)∧w'.cell? ⟨gp,1,none⟩ = some (.slice s.A1 s.l1.length s.c1)∧w'.cell? ⟨gp,2,none⟩ = some (.int .i64 s.tr)∧w'.cell? ⟨gp,3,none⟩ = some (.int .i64 s.en)∧w'.cell? ⟨gp,4,none⟩ = some (.int .i64 s.de)) (ds:=[]) #[false,false,false,false,false,false,false,false,false,false,false,false,false,false,false,false,false,false,false,false,false,false,false] (by kernel_rfl) rfl rfl ⟨(kC HS.out.sz.pb 0).trans rfl,(kC HS.out.sz.pb 1).trans rfl,(kC HS.out.sz.pb 2).trans rfl,(kC HS.out.sz.pb 3).trans rfl,(kC HS.out.sz.pb 4).trans rfl⟩ (fun hHeld => ?_);refine with_tabW spec_Fastest.tab17 spec_Fastest.bits17 (fun HT_ HW_ => ?_);generalize w11.drew = w12 at HS hHeld ⊢;refine pure_ (i:=1) (N:=some 64) (v:=?_) (a':=?_) #[false,true,false,false,false,false,false,false,false,false,false,false,false,false,false,false,false,false,false,false,false,false,false] rfl rfl (any_of HT_.out (by kernel_rfl)) (fun _ _ _ h => h) (Or.inl ⟨by rfl,?_⟩) ?_ ?_;rotate_left
         ·intro w'
          go_simp
          with_reducible rfl
         rotate_left
         ·simp only [Act.put,pS]
          rfl
         refine pure_ (i:=2) (N:=some 65) (v:=?_) (a':=?_) #[false,true,true,false,false,false,false,false,false,false,false,false,false,false,false,false,false,false,false,false,false,false,false] rfl rfl (any_of HT_.out (by kernel_rfl)) (fun _ _ _ h => h) (Or.inl ⟨by rfl,?_⟩) ?_ ?_;rotate_left
         ·intro w'
          go_simp
          with_reducible rfl
         rotate_left
         ·simp only [Act.put,pS]
          rfl
         refine pure_ (i:=3) (N:=some 66) (v:=?_) (a':=?_) #[false,true,true,true,false,false,false,false,false,false,false,false,false,false,false,false,false,false,false,false,false,false,false] rfl rfl (any_of HT_.out (by kernel_rfl)) (fun _ _ _ h => h) (Or.inl ⟨by rfl,?_⟩) ?_ ?_;rotate_left
         ·intro w'
          go_simp
          with_reducible rfl
         rotate_left
         ·simp only [Act.put,pS]
          rfl
         refine pure_ (i:=4) (N:=some 67) (v:=?_) (a':=?_) #[false,true,true,true,true,false,false,false,false,false,false,false,false,false,false,false,false,false,false,false,false,false,false] rfl rfl (any_of HT_.out (by kernel_rfl)) (fun _ _ _ h => h) (Or.inl ⟨by rfl,?_⟩) ?_ ?_;rotate_left
         ·intro w'
          go_simp
          with_reducible rfl
         rotate_left
         ·simp only [Act.put,pS]
          rfl
         refine take_ (i:=0) (N:=some 63) (v:=?_) (a':=?_) #[true,true,true,true,true,false,false,false,false,false,false,false,false,false,false,false,false,false,false,false,false,false,false] rfl rfl (take_ofW HT_.out HW_.out (by kernel_rfl)) (fun _ _ _ h => h) (Or.inl ⟨by rfl,?_⟩) hHeld ?_ ?_;rotate_left
         ·rintro w' ⟨s0,s1,s2,s3,s4⟩
          go_simp
          with_reducible rfl
         rotate_left
         ·simp only [Act.put,pS]
          rfl
         refine one_ (i:=5) (N:=some 68) #[true,true,true,true,true,true,false,false,false,false,false,false,false,false,false,false,false,false,false,false,false,false,false] rfl rfl (one_of HT_.out (by kernel_rfl)) (by decide) (fun K hK => ?_);refine goes_ Try.func47 (by kernel_rfl) rfl #[.agg #[.slice s.A0 s.l0.length s.c0,.slice s.A1 s.l1.length s.c1,.int .i64 s.tr,.int .i64 s.en,.int .i64 s.de],.int .i64 (wrap64 (s.x + d)),.int .i64 z] (by rfl) rfl rfl lA ?_
         with_reducible refine (spec_l3may.calls k2 _ _ s.l0 _ _ s.l1 s.tr s.en s.de (wrap64 (s.x + d)) z false _ (SZ.grd HS.out.sz).k0 HS.out.sz.rd.n0 (SZ.grd HS.out.sz).k1 HS.out.sz.rd.n1 AM.out).mono ?_
         rintro e w14 ⟨rfl,hb⟩;refine ⟨_,rfl,?_⟩;have n0_:=Am (SE.below HS.out hb);clear HS;have HS:=n0_;clear n0_ hb;refine hK.out _ _ ⟨(kC HS.out.sz.pb 0).trans rfl,(kC HS.out.sz.pb 1).trans rfl,(kC HS.out.sz.pb 2).trans rfl,(kC HS.out.sz.pb 3).trans rfl,(kC HS.out.sz.pb 4).trans rfl⟩ (fun hHeld => ?_);clear hK K;refine norm_ (a':=?_) ?_ ?_;rotate_left
         ·show Act.put _ (some 68) _ = _
          simp only [Act.put,pS]
          rfl
         refine pure_ (i:=6) (N:=some 69) (v:=?_) (a':=?_) #[true,true,true,true,true,true,true,false,false,false,false,false,false,false,false,false,false,false,false,false,false,false,false] rfl rfl (any_of HT_.out (by kernel_rfl)) (fun _ _ _ h => h) (Or.inl ⟨by rfl,?_⟩) ?_ ?_;rotate_left
         ·intro w'
          go_simp
          with_reducible rfl
         rotate_left
         ·simp only [Act.put,pS]
          rfl
         refine pure_ (i:=7) (N:=some 70) (v:=undef) (a':=?_) #[true,true,true,true,true,true,true,true,false,false,false,false,false,false,false,false,false,false,false,false,false,false,false] rfl rfl (any_of HT_.out (by kernel_rfl)) (fun _ _ _ h => h) (Or.inr ⟨by rfl,rfl⟩) ?_ ?_;rotate_left
         ·simp only [Act.put,pS]
          rfl
         refine pure_ (i:=8) (N:=some 71) (v:=undef) (a':=?_) #[true,true,true,true,true,true,true,true,true,false,false,false,false,false,false,false,false,false,false,false,false,false,false] rfl rfl (any_of HT_.out (by kernel_rfl)) (fun _ _ _ h => h) (Or.inr ⟨by rfl,rfl⟩) ?_ ?_;rotate_left
         ·simp only [Act.put,pS]
          rfl
         refine pure_ (i:=9) (N:=some 72) (v:=undef) (a':=?_) #[true,true,true,true,true,true,true,true,true,true,false,false,false,false,false,false,false,false,false,false,false,false,false] rfl rfl (any_of HT_.out (by kernel_rfl)) (fun _ _ _ h => h) (Or.inr ⟨by rfl,rfl⟩) ?_ ?_;rotate_left
         ·simp only [Act.put,pS]
          rfl
         refine pure_ (i:=10) (N:=some 73) (v:=undef) (a':=?_) #[true,true,true,true,true,true,true,true,true,true,true,false,false,false,false,false,false,false,false,false,false,false,false] rfl rfl (any_of HT_.out (by kernel_rfl)) (fun _ _ _ h => h) (Or.inr ⟨by rfl,rfl⟩) ?_ ?_;rotate_left
         ·simp only [Act.put,pS]
          rfl
         refine pure_ (i:=11) (N:=some 74) (v:=undef) (a':=?_) #[true,true,true,true,true,true,true,true,true,true,true,true,false,false,false,false,false,false,false,false,false,false,false] rfl rfl (any_of HT_.out (by kernel_rfl)) (fun _ _ _ h => h) (Or.inr ⟨by rfl,rfl⟩) ?_ ?_;rotate_left
         ·simp only [Act.put,pS]
          rfl
         refine pure_ (i:=12) (N:=some 75) (v:=undef) (a':=?_) #[true,true,true,true,true,true,true,true,true,true,true,true,true,false,false,false,false,false,false,false,false,false,false] rfl rfl (any_of HT_.out (by kernel_rfl)) (fun _ _ _ h => h) (Or.inr ⟨by rfl,rfl⟩) ?_ ?_;rotate_left
         ·simp only [Act.put,pS]
          rfl
         refine pure_ (i:=13) (N:=some 76) (v:=undef) (a':=?_) #[true,true,true,true,true,true,true,true,true,true,true,true,true,true,false,false,false,false,false,false,false,false,false] rfl rfl (any_of HT_.out (by kernel_rfl)) (fun _ _ _ h => h) (Or.inr ⟨by rfl,rfl⟩) ?_ ?_;rotate_left
         ·simp only [Act.put,pS]
          rfl
         refine pure_ (i:=14) (N:=some 77) (v:=undef) (a':=?_) #[true,true,true,true,true,true,true,true,true,true,true,true,true,true,true,false,false,false,false,false,false,false,false] rfl rfl (any_of HT_.out (by kernel_rfl)) (fun _ _ _ h => h) (Or.inr ⟨by rfl,rfl⟩) ?_ ?_;rotate_left
         ·simp only [Act.put,pS]
          rfl
         refine pure_ (i:=15) (N:=some 78) (v:=undef) (a':=?_) #[true,true,true,true,true,true,true,true,true,true,true,true,true,true,true,true,false,false,false,false,false,false,false] rfl rfl (any_of HT_.out (by kernel_rfl)) (fun _ _ _ h => h) (Or.inr ⟨by rfl,rfl⟩) ?_ ?_;rotate_left
         ·simp only [Act.put,pS]
          rfl
         refine pure_ (i:=16) (N:=some 79) (v:=undef) (a':=?_) #[true,true,true,true,true,true,true,true,true,true,true,true,true,true,true,true,true,false,false,false,false,false,false] rfl rfl (any_of HT_.out (by kernel_rfl)) (fun _ _ _ h => h) (Or.inr ⟨by rfl,rfl⟩) ?_ ?_;rotate_left
         ·simp only [Act.put,pS]
          rfl
         refine pure_ (i:=17) (N:=some 80) (v:=undef) (a':=?_) #[true,true,true,true,true,true,true,true,true,true,true,true,true,true,true,true,true,true,false,false,false,false,false] rfl rfl (any_of HT_.out (by kernel_rfl)) (fun _ _ _ h => h) (Or.inr ⟨by rfl,rfl⟩) ?_ ?_;rotate_left
         ·simp only [Act.put,pS]
          rfl
         refine pure_ (i:=18) (N:=some 81) (v:=undef) (a':=?_) #[true,true,true,true,true,true,true,true,true,true,true,true,true,true,true,true,true,true,true,false,false,false,false] rfl rfl (any_of HT_.out (by kernel_rfl)) (fun _ _ _ h => h) (Or.inr ⟨by rfl,rfl⟩) ?_ ?_;rotate_left
         ·simp only [Act.put,pS]
          rfl
         refine pure_ (i:=19) (N:=some 82) (v:=undef) (a':=?_) #[true,true,true,true,true,true,true,true,true,true,true,true,true,true,true,true,true,true,true,true,false,false,false] rfl rfl (any_of HT_.out (by kernel_rfl)) (fun _ _ _ h => h) (Or.inr ⟨by rfl,rfl⟩) ?_ ?_;rotate_left
         ·simp only [Act.put,pS]
          rfl
         refine pure_ (i:=20) (N:=some 83) (v:=undef) (a':=?_) #[true,true,true,true,true,true,true,true,true,true,true,true,true,true,true,true,true,true,true,true,true,false,false] rfl rfl (any_of HT_.out (by kernel_rfl)) (fun _ _ _ h => h) (Or.inr ⟨by rfl,rfl⟩) ?_ ?_;rotate_left
         ·simp only [Act.put,pS]
          rfl
         refine pure_ (i:=21) (N:=some 84) (v:=undef) (a':=?_) #[true,true,true,true,true,true,true,true,true,true,true,true,true,true,true,true,true,true,true,true,true,true,false] rfl rfl (any_of HT_.out (by kernel_rfl)) (fun _ _ _ h => h) (Or.inr ⟨by rfl,rfl⟩) ?_ ?_;rotate_left
         ·simp only [Act.put,pS]
          rfl
         refine pure_ (i:=22) (N:=some 85) (v:=?_) (a':=?_) #[true,true,true,true,true,true,true,true,true,true,true,true,true,true,true,true,true,true,true,true,true,true,true] rfl rfl (any_of HT_.out (by kernel_rfl)) (fun _ _ _ h => h) (Or.inl ⟨by rfl,?_⟩) ?_ ?_;rotate_left
         ·intro w'
          go_simp
          with_reducible rfl
         rotate_left
         ·simp only [Act.put,pS]
          rfl
         refine done_ (done_of HT_.out (by kernel_rfl)) ?_;go_wp2
         go_roundg k2
         case measure => omega
         case rel => exact ⟨best,wrap64 (z + 1),by first|rfl|(simp;done)|(simp [*];done),by first|rfl|(simp;done)|(simp [*];done),⟨by rw [HHI.out];exact H''.out⟩,⟨by have:=HK2.out;omega⟩,⟨by (with_reducible repeat (first|refine SE.drewN ?_ _|refine SE.drew ?_|refine SE.alloc ?_ _));exact HS.out⟩⟩
        | true =>
         rw [if_pos rfl] at H
         obtain ⟨j,hj⟩ : ∃ j : Int,wrap64 (wrap64 (wrap64 (d + z) * 61) + z) = j:=⟨_,rfl⟩
         rw [hj] at H;have HX:=Am hj;clear hj;rw [HS.out.sz.nn] at H
         by_cases c8 : 0 ≤ j
         case neg => rw [if_neg c8] at H;cases H
         rw [if_pos c8] at H
         by_cases c9 : j < (n : Int)
         case neg => rw [if_neg c9] at H;cases H
         rw [if_pos c9] at H;have C8:=Am c8;have C9:=Am c9;have p8 : (0 ≤ j) = True:=eq_true c8;have q8 : (j < (n : Int)) = True:=eq_true c9;clear c8 c9
         by_cases c10 : rd Li j = wrap64 (kk - 1)
         case pos =>
          rw [if_pos c10] at H;have H'':=Am H;clear H;have c10b0 : (rd Li j == wrap64 (kk - 1)) = true:=beq_iff_eq.mpr c10;clear c10
          go_wp2_with (first|((with_reducible refine gate_callee (f:=46) rfl ?_);(try (refine gate_guard (by rfl) ?_;dsimp only));refine goesL_ (some 59) rfl rfl Try.func46 (by kernel_rfl) rfl #[.pointer (some ⟨g,0,none⟩),.int .i64 v] rfl lA ?_;(with_reducible refine (l4_high.calls s g (.slice (some ⟨gl,0,none⟩) n cl) v hi _ (SZ.st (SE.sz (by (with_reducible repeat (first|refine SE.drewN ?_ _|refine SE.drew ?_|refine SE.alloc ?_ _));exact HS.out))) HHI.out).mono ?_);rintro e w11 ⟨rfl,hb⟩;refine ⟨_,rfl,?_⟩;have n0_:=Am (SE.below (by (with_reducible repeat (first|refine SE.drewN ?_ _|refine SE.drew ?_|refine SE.alloc ?_ _));exact HS.out) hb);clear HS;have HS:=n0_;clear n0_ hb))
          have n0_:=Am (SE.drew HS.out);clear HS;have HS:=n0_;clear n0_;refine start_ (n:=23) (S:=fun w' => w'.cell? ⟨gp,0,none⟩ = some (.slice s.A0 s.l0.length s.c0)∧w'.cell? ⟨gp,1,none⟩ = some (.slice s.A1 s.l1.length s.c1)∧w'.cell? ⟨gp,2,none⟩ = some (.int .i64 s.tr)∧w'.cell? ⟨gp,3,none⟩ = some (.int .i64 s.en)∧w'.cell? ⟨gp,4,none⟩ = some (.int .i64 s.de)∧w'.cell? ⟨g,8,none⟩ = some (.slice (some ⟨gl,0,none⟩) n cl)∧w'.cell? ⟨gl,j.toNat,none⟩ = some (.int .i64 (rd Li j))) (ds:=[]) #[false,false,false,false,false,false,false,false,false,false,false,false,false,false,false,false,false,false,false,false,false,false,false] (by kernel_rfl) rfl rfl ⟨(kC HS.out.sz.pb 0).trans rfl,(kC HS.out.sz.pb 1).trans rfl,(kC HS.out.sz.pb 2).trans rfl,(kC HS.out.sz.pb 3).trans rfl,(kC HS.out.sz.pb 4).trans rfl,(kC HS.out.sz.st 8).trans rfl,(Kd.R_celln 0 HS.out.sz.lf j C8.out C9.out).1⟩ (fun hHeld => ?_);refine with_tabW spec_Fastest.tab17 spec_Fastest.bits17 (fun HT_ HW_ => ?_);generalize w11.drew = w12 at HS hHeld ⊢;refine pure_ (i:=1) (N:=some 64) (v:=?_) (a':=?_) #[false,true,false,false,false,false,false,false,false,false,false,false,false,false,false,false,false,false,false,false,false,false,false] rfl rfl (any_of HT_.out (by kernel_rfl)) (fun _ _ _ h => h) (Or.inl ⟨by rfl,?_⟩) ?_ ?_;rotate_left
          ·intro w'
           go_simp
           with_reducible rfl
          rotate_left
          ·simp only [Act.put,pS]
           rfl
          refine pure_ (i:=2) (N:=some 65) (v:=?_) (a':=?_) #[false,true,true,false,false,false,false,false,false,false,false,false,false,false,false,false,false,false,false,false,false,false,false] rfl rfl (any_of HT_.out (by kernel_rfl)) (fun _ _ _ h => h) (Or.inl ⟨by rfl,?_⟩) ?_ ?_;rotate_left
          ·intro w'
           go_simp
           with_reducible rfl
          rotate_left
          ·simp only [Act.put,pS]
           rfl
          refine pure_ (i:=3) (N:=some 66) (v:=?_) (a':=?_) #[false,true,true,true,false,false,false,false,false,false,false,false,false,false,false,false,false,false,false,false,false,false,false] rfl rfl (any_of HT_.out (by kernel_rfl)) (fun _ _ _ h => h) (Or.inl ⟨by rfl,?_⟩) ?_ ?_;rotate_left
          ·intro w'
           go_simp
           with_reducible rfl
          rotate_left
          ·simp only [Act.put,pS]
           rfl
          refine pure_ (i:=4) (N:=some 67) (v:=?_) (a':=?_) #[false,true,true,true,true,false,false,false,false,false,false,false,false,false,false,false,false,false,false,false,false,false,false] rfl rfl (any_of HT_.out (by kernel_rfl)) (fun _ _ _ h => h) (Or.inl ⟨by rfl,?_⟩) ?_ ?_;rotate_left
          ·intro w'
           go_simp
           with_reducible rfl
          rotate_left
          ·simp only [Act.put,pS]
           rfl
          refine take_ (i:=0) (N:=some 63) (v:=?_) (a':=?_) #[true,true,true,true,true,false,false,false,false,false,false,false,false,false,false,false,false,false,false,false,false,false,false] rfl rfl (take_ofW HT_.out HW_.out (by kernel_rfl)) (fun _ _ _ h => h) (Or.inl ⟨by rfl,?_⟩) hHeld ?_ ?_;rotate_left
          ·rintro w' ⟨s0,s1,s2,s3,s4,s5,s6⟩
           go_simp
           with_reducible rfl
          rotate_left
          ·simp only [Act.put,pS]
           rfl
          refine one_ (i:=5) (N:=some 68) #[true,true,true,true,true,true,false,false,false,false,false,false,false,false,false,false,false,false,false,false,false,false,false] rfl rfl (one_of HT_.out (by kernel_rfl)) (by decide) (fun K hK => ?_);refine goes_ Try.func47 (by kernel_rfl) rfl #[.agg #[.slice s.A0 s.l0.length s.c0,.slice s.A1 s.l1.length s.c1,.int .i64 s.tr,.int .i64 s.en,.int .i64 s.de],.int .i64 (wrap64 (s.x + d)),.int .i64 z] (by rfl) rfl rfl lA ?_
          with_reducible refine (spec_l3may.calls k2 _ _ s.l0 _ _ s.l1 s.tr s.en s.de (wrap64 (s.x + d)) z true _ (SZ.grd HS.out.sz).k0 HS.out.sz.rd.n0 (SZ.grd HS.out.sz).k1 HS.out.sz.rd.n1 AM.out).mono ?_
          rintro e w14 ⟨rfl,hb⟩;refine ⟨_,rfl,?_⟩;have n0_:=Am (SE.below HS.out hb);clear HS;have HS:=n0_;clear n0_ hb;refine hK.out _ _ ⟨(kC HS.out.sz.pb 0).trans rfl,(kC HS.out.sz.pb 1).trans rfl,(kC HS.out.sz.pb 2).trans rfl,(kC HS.out.sz.pb 3).trans rfl,(kC HS.out.sz.pb 4).trans rfl,(kC HS.out.sz.st 8).trans rfl,(Kd.R_celln 0 HS.out.sz.lf j C8.out C9.out).1⟩ (fun hHeld => ?_);clear hK K;refine norm_ (a':=?_) ?_ ?_;rotate_left
          ·show Act.put _ (some 68) _ = _
           simp only [Act.put,pS]
           rfl
          refine pure_ (i:=6) (N:=some 69) (v:=?_) (a':=?_) #[true,true,true,true,true,true,true,false,false,false,false,false,false,false,false,false,false,false,false,false,false,false,false] rfl rfl (any_of HT_.out (by kernel_rfl)) (fun _ _ _ h => h) (Or.inl ⟨by rfl,?_⟩) ?_ ?_;rotate_left
          ·intro w'
           go_simp
           with_reducible rfl
          rotate_left
          ·simp only [Act.put,pS]
           rfl
          refine pure_ (i:=7) (N:=some 70) (v:=?_) (a':=?_) #[true,true,true,true,true,true,true,true,false,false,false,false,false,false,false,false,false,false,false,false,false,false,false] rfl rfl (any_of HT_.out (by kernel_rfl)) (fun _ _ _ h => h) (Or.inl ⟨by rfl,?_⟩) ?_ ?_;rotate_left
          ·intro w'
           go_simp
           with_reducible rfl
          rotate_left
          ·simp only [Act.put,pS]
           rfl
          refine pure_ (i:=8) (N:=some 71) (v:=?_) (a':=?_) #[true,true,true,true,true,true,true,true,true,false,false,false,false,false,false,false,false,false,false,false,false,false,false] rfl rfl (any_of HT_.out (by kernel_rfl)) (fun _ _ _ h => h) (Or.inl ⟨by rfl,?_⟩) ?_ ?_;rotate_left
          ·intro w'
           go_simp
           with_reducible rfl
          rotate_left
          ·simp only [Act.put,pS]
           rfl
          refine pure_ (i:=9) (N:=some 72) (v:=?_) (a':=?_) #[true,true,true,true,true,true,true,true,true,true,false,false,false,false,false,false,false,false,false,false,false,false,false] rfl rfl (any_of HT_.out (by kernel_rfl)) (fun _ _ _ h => h) (Or.inl ⟨by rfl,?_⟩) ?_ ?_;rotate_left
          ·intro w'
           go_simp
           with_reducible rfl
          rotate_left
          ·simp only [Act.put,pS]
           rfl
          refine pure_ (i:=11) (N:=some 74) (v:=?_) (a':=?_) #[true,true,true,true,true,true,true,true,true,true,false,true,false,false,false,false,false,false,false,false,false,false,false] rfl rfl (any_of HT_.out (by kernel_rfl)) (fun _ _ _ h => h) (Or.inl ⟨by rfl,?_⟩) ?_ ?_;rotate_left
          ·intro w'
           go_simp
           with_reducible rfl
          rotate_left
          ·simp only [Act.put,pS]
           rfl
          refine pure_ (i:=12) (N:=some 75) (v:=?_) (a':=?_) #[true,true,true,true,true,true,true,true,true,true,false,true,true,false,false,false,false,false,false,false,false,false,false] rfl rfl (any_of HT_.out (by kernel_rfl)) (fun _ _ _ h => h) (Or.inl ⟨by rfl,?_⟩) ?_ ?_;rotate_left
          ·intro w'
           go_simp
           with_reducible rfl
          rotate_left
          ·simp only [Act.put,pS]
           rfl
          refine pure_ (i:=13) (N:=some 76) (v:=?_) (a':=?_) #[true,true,true,true,true,true,true,true,true,true,false,true,true,true,false,false,false,false,false,false,false,false,false] rfl rfl (any_of HT_.out (by kernel_rfl)) (fun _ _ _ h => h) (Or.inl ⟨by rfl,?_⟩) ?_ ?_;rotate_left
          ·intro w'
           go_simp
           with_reducible rfl
          rotate_left
          ·simp only [Act.put,pS]
           rfl
          refine pure_ (i:=14) (N:=some 77) (v:=?_) (a':=?_) #[true,true,true,true,true,true,true,true,true,true,false,true,true,true,true,false,false,false,false,false,false,false,false] rfl rfl (any_of HT_.out (by kernel_rfl)) (fun _ _ _ h => h) (Or.inl ⟨by rfl,?_⟩) ?_ ?_;rotate_left
          ·intro w'
           go_simp
           with_reducible rfl
          rotate_left
          ·simp only [Act.put,pS]
           rfl
          refine pure_ (i:=15) (N:=some 78) (v:=?_) (a':=?_) #[true,true,true,true,true,true,true,true,true,true,false,true,true,true,true,true,false,false,false,false,false,false,false] rfl rfl (any_of HT_.out (by kernel_rfl)) (fun _ _ _ h => h) (Or.inl ⟨by rfl,?_⟩) ?_ ?_;rotate_left
          ·intro w'
           go_simp
           with_reducible rfl
          rotate_left
          ·simp only [Act.put,pS]
           rfl
          refine pure_ (i:=19) (N:=some 82) (v:=?_) (a':=?_) #[true,true,true,true,true,true,true,true,true,true,false,true,true,true,true,true,false,false,false,true,false,false,false] rfl rfl (any_of HT_.out (by kernel_rfl)) (fun _ _ _ h => h) (Or.inl ⟨by rfl,?_⟩) ?_ ?_;rotate_left
          ·intro w'
           go_simp
           with_reducible rfl
          rotate_left
          ·simp only [Act.put,pS]
           rfl
          refine pure_ (i:=20) (N:=some 83) (v:=?_) (a':=?_) #[true,true,true,true,true,true,true,true,true,true,false,true,true,true,true,true,false,false,false,true,true,false,false] rfl rfl (any_of HT_.out (by kernel_rfl)) (fun _ _ _ h => h) (Or.inl ⟨by rfl,?_⟩) ?_ ?_;rotate_left
          ·intro w'
           go_simp
           with_reducible rfl
          rotate_left
          ·simp only [Act.put,pS]
           rfl
          refine take_ (i:=10) (N:=some 73) (v:=?_) (a':=?_) #[true,true,true,true,true,true,true,true,true,true,true,true,true,true,true,true,false,false,false,true,true,false,false] rfl rfl (take_ofW HT_.out HW_.out (by kernel_rfl)) (fun _ _ _ h => h) (Or.inl ⟨by rfl,?_⟩) hHeld ?_ ?_;rotate_left
          ·rintro w' ⟨s0,s1,s2,s3,s4,s5,s6⟩
           go_simp
           with_reducible rfl
          rotate_left
          ·simp only [Act.put,pS]
           rfl
          refine one_ (i:=16) (N:=some 79) #[true,true,true,true,true,true,true,true,true,true,true,true,true,true,true,true,true,false,false,true,true,false,false] rfl rfl (one_of HT_.out (by kernel_rfl)) (by decide) (fun K hK => ?_);refine goes_ Try.func50 (by kernel_rfl) rfl #[.pointer (some ⟨g,0,none⟩),.int .i64 (wrap64 (d + z)),.int .i64 z] (by rfl) rfl rfl lA ?_
          with_reducible refine (l4_at.calls (.pointer (some ⟨g,0,none⟩)) (wrap64 (d + z)) z j _ HX.out).mono ?_
          rintro e w15 ⟨rfl,hb⟩;refine ⟨_,rfl,?_⟩;have n0_:=Am (SE.below HS.out hb);clear HS;have HS:=n0_;clear n0_ hb;refine hK.out _ _ ⟨(kC HS.out.sz.pb 0).trans rfl,(kC HS.out.sz.pb 1).trans rfl,(kC HS.out.sz.pb 2).trans rfl,(kC HS.out.sz.pb 3).trans rfl,(kC HS.out.sz.pb 4).trans rfl,(kC HS.out.sz.st 8).trans rfl,(Kd.R_celln 0 HS.out.sz.lf j C8.out C9.out).1⟩ (fun hHeld => ?_);clear hK K;refine norm_ (a':=?_) ?_ ?_;rotate_left
          ·show Act.put _ (some 79) _ = _
           simp only [Act.put,pS]
           rfl
          refine pure_ (i:=17) (N:=some 80) (v:=?_) (a':=?_) #[true,true,true,true,true,true,true,true,true,true,true,true,true,true,true,true,true,true,false,true,true,false,false] rfl rfl (any_of HT_.out (by kernel_rfl)) (fun _ _ _ h => h) (Or.inl ⟨by rfl,?_⟩) ?_ ?_;rotate_left
          ·intro w'
           go_simp
           with_reducible rfl
          rotate_left
          ·simp only [Act.put,pS]
           rfl
          refine take_ (i:=18) (N:=some 81) (v:=?_) (a':=?_) #[true,true,true,true,true,true,true,true,true,true,true,true,true,true,true,true,true,true,true,true,true,false,false] rfl rfl (take_ofW HT_.out HW_.out (by kernel_rfl)) (fun _ _ _ h => h) (Or.inl ⟨by rfl,?_⟩) hHeld ?_ ?_;rotate_left
          ·rintro w' ⟨s0,s1,s2,s3,s4,s5,s6⟩
           go_simp
           with_reducible rfl
          rotate_left
          ·simp only [Act.put,pS]
           rfl
          refine pure_ (i:=21) (N:=some 84) (v:=?_) (a':=?_) #[true,true,true,true,true,true,true,true,true,true,true,true,true,true,true,true,true,true,true,true,true,true,false] rfl rfl (any_of HT_.out (by kernel_rfl)) (fun _ _ _ h => h) (Or.inl ⟨by rfl,?_⟩) ?_ ?_;rotate_left
          ·intro w'
           go_simp
           with_reducible rfl
          rotate_left
          ·simp only [Act.put,pS]
           rfl
          refine pure_ (i:=22) (N:=some 85) (v:=?_) (a':=?_) #[true,true,true,true,true,true,true,true,true,true,true,true,true,true,true,true,true,true,true,true,true,true,true] rfl rfl (any_of HT_.out (by kernel_rfl)) (fun _ _ _ h => h) (Or.inl ⟨by rfl,?_⟩) ?_ ?_;rotate_left
          ·intro w'
           go_simp
           with_reducible rfl
          rotate_left
          ·simp only [Act.put,pS]
           rfl
          refine done_ (done_of HT_.out (by kernel_rfl)) ?_;go_wp2
          go_roundg k2
          case measure => omega
          case rel => exact ⟨z,wrap64 (z + 1),by first|rfl|(simp;done)|(simp [*];done),by first|rfl|(simp;done)|(simp [*];done),⟨by rw [HHI.out];exact H''.out⟩,⟨by have:=HK2.out;omega⟩,⟨by (with_reducible repeat (first|refine SE.drewN ?_ _|refine SE.drew ?_|refine SE.alloc ?_ _));exact HS.out⟩⟩
         case neg =>
          rw [if_neg c10] at H;have H'':=Am H;clear H;have c10b0 : (rd Li j == wrap64 (kk - 1)) = false:=beq_eq_false_iff_ne.mpr c10;clear c10
          go_wp2_with (first|((with_reducible refine gate_callee (f:=46) rfl ?_);(try (refine gate_guard (by rfl) ?_;dsimp only));refine goesL_ (some 59) rfl rfl Try.func46 (by kernel_rfl) rfl #[.pointer (some ⟨g,0,none⟩),.int .i64 v] rfl lA ?_;(with_reducible refine (l4_high.calls s g (.slice (some ⟨gl,0,none⟩) n cl) v hi _ (SZ.st (SE.sz (by (with_reducible repeat (first|refine SE.drewN ?_ _|refine SE.drew ?_|refine SE.alloc ?_ _));exact HS.out))) HHI.out).mono ?_);rintro e w11 ⟨rfl,hb⟩;refine ⟨_,rfl,?_⟩;have n0_:=Am (SE.below (by (with_reducible repeat (first|refine SE.drewN ?_ _|refine SE.drew ?_|refine SE.alloc ?_ _));exact HS.out) hb);clear HS;have HS:=n0_;clear n0_ hb))
          have n0_:=Am (SE.drew HS.out);clear HS;have HS:=n0_;clear n0_;refine start_ (n:=23) (S:=fun w' => w'.cell? ⟨gp,0,none⟩ = some (.slice s.A0 s.l0.length s.c0)∧w'.cell? ⟨gp,1,none⟩ = some (.slice s.A1 s.l1.length s.c1)∧w'.cell? ⟨gp,2,none⟩ = some (.int .i64 s.tr)∧w'.cell? ⟨gp,3,none⟩ = some (.int .i64 s.en)∧w'.cell? ⟨gp,4,none⟩ = some (.int .i64 s.de)∧w'.cell? ⟨g,8,none⟩ = some (.slice (some ⟨gl,0,none⟩) n cl)∧w'.cell? ⟨gl,j.toNat,none⟩ = some (.int .i64 (rd Li j))) (ds:=[]) #[false,false,false,false,false,false,false,false,false,false,false,false,false,false,false,false,false,false,false,false,false,false,false] (by kernel_rfl) rfl rfl ⟨(kC HS.out.sz.pb 0).trans rfl,(kC HS.out.sz.pb 1).trans rfl,(kC HS.out.sz.pb 2).trans rfl,(kC HS.out.sz.pb 3).trans rfl,(kC HS.out.sz.pb 4).trans rfl,(kC HS.out.sz.st 8).trans rfl,(Kd.R_celln 0 HS.out.sz.lf j C8.out C9.out).1⟩ (fun hHeld => ?_);refine with_tabW spec_Fastest.tab17 spec_Fastest.bits17 (fun HT_ HW_ => ?_);generalize w11.drew = w12 at HS hHeld ⊢;refine pure_ (i:=1) (N:=some 64) (v:=?_) (a':=?_) #[false,true,false,false,false,false,false,false,false,false,false,false,false,false,false,false,false,false,false,false,false,false,false] rfl rfl (any_of HT_.out (by kernel_rfl)) (fun _ _ _ h => h) (Or.inl ⟨by rfl,?_⟩) ?_ ?_;rotate_left
          ·intro w'
           go_simp
           with_reducible rfl
          rotate_left
          ·simp only [Act.put,pS]
           rfl
          refine pure_ (i:=2) (N:=some 65) (v:=?_) (a':=?_) #[false,true,true,false,false,false,false,false,false,false,false,false,false,false,false,false,false,false,false,false,false,false,false] rfl rfl (any_of HT_.out (by kernel_rfl)) (fun _ _ _ h => h) (Or.inl ⟨by rfl,?_⟩) ?_ ?_;rotate_left
          ·intro w'
           go_simp
           with_reducible rfl
          rotate_left
          ·simp only [Act.put,pS]
           rfl
          refine pure_ (i:=3) (N:=some 66) (v:=?_) (a':=?_) #[false,true,true,true,false,false,false,false,false,false,false,false,false,false,false,false,false,false,false,false,false,false,false] rfl rfl (any_of HT_.out (by kernel_rfl)) (fun _ _ _ h => h) (Or.inl ⟨by rfl,?_⟩) ?_ ?_;rotate_left
          ·intro w'
           go_simp
           with_reducible rfl
          rotate_left
          ·simp only [Act.put,pS]
           rfl
          refine pure_ (i:=4) (N:=some 67) (v:=?_) (a':=?_) #[false,true,true,true,true,false,false,false,false,false,false,false,false,false,false,false,false,false,false,false,false,false,false] rfl rfl (any_of HT_.out (by kernel_rfl)) (fun _ _ _ h => h) (Or.inl ⟨by rfl,?_⟩) ?_ ?_;rotate_left
          ·intro w'
           go_simp
           with_reducible rfl
          rotate_left
          ·simp only [Act.put,pS]
           rfl
          refine take_ (i:=0) (N:=some 63) (v:=?_) (a':=?_) #[true,true,true,true,true,false,false,false,false,false,false,false,false,false,false,false,false,false,false,false,false,false,false] rfl rfl (take_ofW HT_.out HW_.out (by kernel_rfl)) (fun _ _ _ h => h) (Or.inl ⟨by rfl,?_⟩) hHeld ?_ ?_;rotate_left
          ·rintro w' ⟨s0,s1,s2,s3,s4,s5,s6⟩
           go_simp
           with_reducible rfl
          rotate_left
          ·simp only [Act.put,pS]
           rfl
          refine one_ (i:=5) (N:=some 68) #[true,true,true,true,true,true,false,false,false,false,false,false,false,false,false,false,false,false,false,false,false,false,false] rfl rfl (one_of HT_.out (by kernel_rfl)) (by decide) (fun K hK => ?_);refine goes_ Try.func47 (by kernel_rfl) rfl #[.agg #[.slice s.A0 s.l0.length s.c0,.slice s.A1 s.l1.length s.c1,.int .i64 s.tr,.int .i64 s.en,.int .i64 s.de],.int .i64 (wrap64 (s.x + d)),.int .i64 z] (by rfl) rfl rfl lA ?_
          with_reducible refine (spec_l3may.calls k2 _ _ s.l0 _ _ s.l1 s.tr s.en s.de (wrap64 (s.x + d)) z true _ (SZ.grd HS.out.sz).k0 HS.out.sz.rd.n0 (SZ.grd HS.out.sz).k1 HS.out.sz.rd.n1 AM.out).mono ?_
          rintro e w14 ⟨rfl,hb⟩;refine ⟨_,rfl,?_⟩;have n0_:=Am (SE.below HS.out hb);clear HS;have HS:=n0_;clear n0_ hb;refine hK.out _ _ ⟨(kC HS.out.sz.pb 0).trans rfl,(kC HS.out.sz.pb 1).trans rfl,(kC HS.out.sz.pb 2).trans rfl,(kC HS.out.sz.pb 3).trans rfl,(kC HS.out.sz.pb 4).trans rfl,(kC HS.out.sz.st 8).trans rfl,(Kd.R_celln 0 HS.out.sz.lf j C8.out C9.out).1⟩ (fun hHeld => ?_);clear hK K;refine norm_ (a':=?_) ?_ ?_;rotate_left
          ·show Act.put _ (some 68) _ = _
           simp only [Act.put,pS]
           rfl
          refine pure_ (i:=6) (N:=some 69) (v:=?_) (a':=?_) #[true,true,true,true,true,true,true,false,false,false,false,false,false,false,false,false,false,false,false,false,false,false,false] rfl rfl (any_of HT_.out (by kernel_rfl)) (fun _ _ _ h => h) (Or.inl ⟨by rfl,?_⟩) ?_ ?_;rotate_left
          ·intro w'
           go_simp
           with_reducible rfl
          rotate_left
          ·simp only [Act.put,pS]
           rfl
          refine pure_ (i:=7) (N:=some 70) (v:=?_) (a':=?_) #[true,true,true,true,true,true,true,true,false,false,false,false,false,false,false,false,false,false,false,false,false,false,false] rfl rfl (any_of HT_.out (by kernel_rfl)) (fun _ _ _ h => h) (Or.inl ⟨by rfl,?_⟩) ?_ ?_;rotate_left
          ·intro w'
           go_simp
           with_reducible rfl
          rotate_left
          ·simp only [Act.put,pS]
           rfl
          refine pure_ (i:=8) (N:=some 71) (v:=?_) (a':=?_) #[true,true,true,true,true,true,true,true,true,false,false,false,false,false,false,false,false,false,false,false,false,false,false] rfl rfl (any_of HT_.out (by kernel_rfl)) (fun _ _ _ h => h) (Or.inl ⟨by rfl,?_⟩) ?_ ?_;rotate_left
          ·intro w'
           go_simp
           with_reducible rfl
          rotate_left
          ·simp only [Act.put,pS]
           rfl
          refine pure_ (i:=9) (N:=some 72) (v:=?_) (a':=?_) #[true,true,true,true,true,true,true,true,true,true,false,false,false,false,false,false,false,false,false,false,false,false,false] rfl rfl (any_of HT_.out (by kernel_rfl)) (fun _ _ _ h => h) (Or.inl ⟨by rfl,?_⟩) ?_ ?_;rotate_left
          ·intro w'
           go_simp
           with_reducible rfl
          rotate_left
          ·simp only [Act.put,pS]
           rfl
          refine pure_ (i:=11) (N:=some 74) (v:=?_) (a':=?_) #[true,true,true,true,true,true,true,true,true,true,false,true,false,false,false,false,false,false,false,false,false,false,false] rfl rfl (any_of HT_.out (by kernel_rfl)) (fun _ _ _ h => h) (Or.inl ⟨by rfl,?_⟩) ?_ ?_;rotate_left
          ·intro w'
           go_simp
           with_reducible rfl
          rotate_left
          ·simp only [Act.put,pS]
           rfl
          refine pure_ (i:=12) (N:=some 75) (v:=?_) (a':=?_) #[true,true,true,true,true,true,true,true,true,true,false,true,true,false,false,false,false,false,false,false,false,false,false] rfl rfl (any_of HT_.out (by kernel_rfl)) (fun _ _ _ h => h) (Or.inl ⟨by rfl,?_⟩) ?_ ?_;rotate_left
          ·intro w'
           go_simp
           with_reducible rfl
          rotate_left
          ·simp only [Act.put,pS]
           rfl
          refine pure_ (i:=13) (N:=some 76) (v:=?_) (a':=?_) #[true,true,true,true,true,true,true,true,true,true,false,true,true,true,false,false,false,false,false,false,false,false,false] rfl rfl (any_of HT_.out (by kernel_rfl)) (fun _ _ _ h => h) (Or.inl ⟨by rfl,?_⟩) ?_ ?_;rotate_left
          ·intro w'
           go_simp
           with_reducible rfl
          rotate_left
          ·simp only [Act.put,pS]
           rfl
          refine pure_ (i:=14) (N:=some 77) (v:=?_) (a':=?_) #[true,true,true,true,true,true,true,true,true,true,false,true,true,true,true,false,false,false,false,false,false,false,false] rfl rfl (any_of HT_.out (by kernel_rfl)) (fun _ _ _ h => h) (Or.inl ⟨by rfl,?_⟩) ?_ ?_;rotate_left
          ·intro w'
           go_simp
           with_reducible rfl
          rotate_left
          ·simp only [Act.put,pS]
           rfl
          refine pure_ (i:=15) (N:=some 78) (v:=?_) (a':=?_) #[true,true,true,true,true,true,true,true,true,true,false,true,true,true,true,true,false,false,false,false,false,false,false] rfl rfl (any_of HT_.out (by kernel_rfl)) (fun _ _ _ h => h) (Or.inl ⟨by rfl,?_⟩) ?_ ?_;rotate_left
          ·intro w'
           go_simp
           with_reducible rfl
          rotate_left
          ·simp only [Act.put,pS]
           rfl
          refine pure_ (i:=19) (N:=some 82) (v:=?_) (a':=?_) #[true,true,true,true,true,true,true,true,true,true,false,true,true,true,true,true,false,false,false,true,false,false,false] rfl rfl (any_of HT_.out (by kernel_rfl)) (fun _ _ _ h => h) (Or.inl ⟨by rfl,?_⟩) ?_ ?_;rotate_left
          ·intro w'
           go_simp
           with_reducible rfl
          rotate_left
          ·simp only [Act.put,pS]
           rfl
          refine pure_ (i:=20) (N:=some 83) (v:=?_) (a':=?_) #[true,true,true,true,true,true,true,true,true,true,false,true,true,true,true,true,false,false,false,true,true,false,false] rfl rfl (any_of HT_.out (by kernel_rfl)) (fun _ _ _ h => h) (Or.inl ⟨by rfl,?_⟩) ?_ ?_;rotate_left
          ·intro w'
           go_simp
           with_reducible rfl
          rotate_left
          ·simp only [Act.put,pS]
           rfl
          refine take_ (i:=10) (N:=some 73) (v:=?_) (a':=?_) #[true,true,true,true,true,true,true,true,true,true,true,true,true,true,true,true,false,false,false,true,true,false,false] rfl rfl (take_ofW HT_.out HW_.out (by kernel_rfl)) (fun _ _ _ h => h) (Or.inl ⟨by rfl,?_⟩) hHeld ?_ ?_;rotate_left
          ·rintro w' ⟨s0,s1,s2,s3,s4,s5,s6⟩
           go_simp
           with_reducible rfl
          rotate_left
          ·simp only [Act.put,pS]
           rfl
          refine one_ (i:=16) (N:=some 79) #[true,true,true,true,true,true,true,true,true,true,true,true,true,true,true,true,true,false,false,true,true,false,false] rfl rfl (one_of HT_.out (by kernel_rfl)) (by decide) (fun K hK => ?_);refine goes_ Try.func50 (by kernel_rfl) rfl #[.pointer (some ⟨g,0,none⟩),.int .i64 (wrap64 (d + z)),.int .i64 z] (by rfl) rfl rfl lA ?_
          with_reducible refine (l4_at.calls (.pointer (some ⟨g,0,none⟩)) (wrap64 (d + z)) z j _ HX.out).mono ?_
          rintro e w15 ⟨rfl,hb⟩;refine ⟨_,rfl,?_⟩;have n0_:=Am (SE.below HS.out hb);clear HS;have HS:=n0_;clear n0_ hb;refine hK.out _ _ ⟨(kC HS.out.sz.pb 0).trans rfl,(kC HS.out.sz.pb 1).trans rfl,(kC HS.out.sz.pb 2).trans rfl,(kC HS.out.sz.pb 3).trans rfl,(kC HS.out.sz.pb 4).trans rfl,(kC HS.out.sz.st 8).trans rfl,(Kd.R_celln 0 HS.out.sz.lf j C8.out C9.out).1⟩ (fun hHeld => ?_);clear hK K;refine norm_ (a':=?_) ?_ ?_;rotate_left
          ·show Act.put _ (some 79) _ = _
           simp only [Act.put,pS]
           rfl
          refine pure_ (i:=17) (N:=some 80) (v:=?_) (a':=?_) #[true,true,true,true,true,true,true,true,true,true,true,true,true,true,true,true,true,true,false,true,true,false,false] rfl rfl (any_of HT_.out (by kernel_rfl)) (fun _ _ _ h => h) (Or.inl ⟨by rfl,?_⟩) ?_ ?_;rotate_left
          ·intro w'
           go_simp
           with_reducible rfl
          rotate_left
          ·simp only [Act.put,pS]
           rfl
          refine take_ (i:=18) (N:=some 81) (v:=?_) (a':=?_) #[true,true,true,true,true,true,true,true,true,true,true,true,true,true,true,true,true,true,true,true,true,false,false] rfl rfl (take_ofW HT_.out HW_.out (by kernel_rfl)) (fun _ _ _ h => h) (Or.inl ⟨by rfl,?_⟩) hHeld ?_ ?_;rotate_left
          ·rintro w' ⟨s0,s1,s2,s3,s4,s5,s6⟩
           go_simp
           with_reducible rfl
          rotate_left
          ·simp only [Act.put,pS]
           rfl
          refine pure_ (i:=21) (N:=some 84) (v:=?_) (a':=?_) #[true,true,true,true,true,true,true,true,true,true,true,true,true,true,true,true,true,true,true,true,true,true,false] rfl rfl (any_of HT_.out (by kernel_rfl)) (fun _ _ _ h => h) (Or.inl ⟨by rfl,?_⟩) ?_ ?_;rotate_left
          ·intro w'
           go_simp
           with_reducible rfl
          rotate_left
          ·simp only [Act.put,pS]
           rfl
          refine pure_ (i:=22) (N:=some 85) (v:=?_) (a':=?_) #[true,true,true,true,true,true,true,true,true,true,true,true,true,true,true,true,true,true,true,true,true,true,true] rfl rfl (any_of HT_.out (by kernel_rfl)) (fun _ _ _ h => h) (Or.inl ⟨by rfl,?_⟩) ?_ ?_;rotate_left
          ·intro w'
           go_simp
           with_reducible rfl
          rotate_left
          ·simp only [Act.put,pS]
           rfl
          refine done_ (done_of HT_.out (by kernel_rfl)) ?_;go_wp2
          go_roundg k2
          case measure => omega
          case rel => exact ⟨best,wrap64 (z + 1),by first|rfl|(simp;done)|(simp [*];done),by first|rfl|(simp;done)|(simp [*];done),⟨by rw [HHI.out];exact H''.out⟩,⟨by have:=HK2.out;omega⟩,⟨by (with_reducible repeat (first|refine SE.drewN ?_ _|refine SE.drew ?_|refine SE.alloc ?_ _));exact HS.out⟩⟩
       case neg =>
        rw [if_neg c7] at H;have c7b0 : decide (z ≤ hi) = false:=decide_eq_false c7;clear c7;obtain rfl:=Option.some.inj H;obtain ⟨Ao,co,eo⟩:=Kd.R_slice HS.out.ol;subst eo
        go_wp2_with (first|((with_reducible refine gate_callee (f:=46) rfl ?_);(try (refine gate_guard (by rfl) ?_;dsimp only));refine goesL_ (some 59) rfl rfl Try.func46 (by kernel_rfl) rfl #[.pointer (some ⟨g,0,none⟩),.int .i64 v] rfl lA ?_;(with_reducible refine (l4_high.calls s g (.slice (some ⟨gl,0,none⟩) n cl) v hi _ (SZ.st (SE.sz (by (with_reducible repeat (first|refine SE.drewN ?_ _|refine SE.drew ?_|refine SE.alloc ?_ _));exact HS.out))) HHI.out).mono ?_);rintro e w11 ⟨rfl,hb⟩;refine ⟨_,rfl,?_⟩;have n0_:=Am (SE.below (by (with_reducible repeat (first|refine SE.drewN ?_ _|refine SE.drew ?_|refine SE.alloc ?_ _));exact HS.out) hb);clear HS;have HS:=n0_;clear n0_ hb;have hcqo0 : w11.cell? ⟨go,0,none⟩ = some (.bool true):=(kC HS.out.ob 0).trans rfl;have hcqo1 : w11.cell? ⟨go,1,none⟩ = some (.int .i64 k0):=(kC HS.out.ob 1).trans rfl;have hcqo2 : w11.cell? ⟨go,2,none⟩ = some (.slice Ao ou.length co):=(kC HS.out.ob 2).trans rfl;have hfqo0:=kF HS.out.ob 0;have hfqo1:=kF HS.out.ob 1;have hfqo2:=kF HS.out.ob 2)|((with_reducible refine gate_builtin (b:=.append) (xs:=#[.tmp 92,.tmp 94]) rfl ?_);at_builtin;refine Kd.R_append (Kd.int .i64) (w0:=?w0_3) w.heap.size rfl (.tmp 92) (.tmp 94) 27 3 (.int .i64 0) 8 rfl Try.underlying27 finfo3 rfl (by decide) (by omega) (.slice Ao ou.length co) ou best [.int .i64 best] (fun k => k ≠ gp∧k ≠ gr∧k ≠ g∧k ≠ gl∧k ≠ go) (fun _ => False) rfl rfl ?aP (fun _ hk => hk.elim) ?aF ?aO ?aB ?aS ?aL ?_;(case aP => exact rfl);(case aB => exact (Below.refl _ _));(case aF => exact SE.fresh (by (with_reducible repeat (first|refine SE.drewN ?_ _|refine SE.drew ?_|refine SE.alloc ?_ _));exact HS.out));(case aO => exact SE.ol (by (with_reducible repeat (first|refine SE.drewN ?_ _|refine SE.drew ?_|refine SE.alloc ?_ _));exact HS.out));(case aS => exact SE.hw (by (with_reducible repeat (first|refine SE.drewN ?_ _|refine SE.drew ?_|refine SE.alloc ?_ _));exact HS.out));(case aL => have:=C6.out;omega);intro v1 w13 ho hb hg hat;obtain ⟨A2,c2_,e2_⟩:=Kd.R_slice ho;rw [show (ou ++ [best]).length = ou.length + 1 from by simp] at e2_;subst e2_;have n0_:=Am (SE.app (by (with_reducible repeat (first|refine SE.drewN ?_ _|refine SE.drew ?_|refine SE.alloc ?_ _));exact HS.out) ho hb hg);clear HS;have HS:=n0_;clear n0_ ho hb hg hat;have hcto0 : w13.cell? ⟨go,0,none⟩ = some (.bool true):=(kC HS.out.ob 0).trans rfl;have hcto1 : w13.cell? ⟨go,1,none⟩ = some (.int .i64 k0):=(kC HS.out.ob 1).trans rfl;have hcto2 : w13.cell? ⟨go,2,none⟩ = some (.slice Ao ou.length co):=(kC HS.out.ob 2).trans rfl;have hfto0:=kF HS.out.ob 0;have hfto1:=kF HS.out.ob 1;have hfto2:=kF HS.out.ob 2))
        go_roundg k1
        case measure => omega
        case rel => exact ⟨wrap64 (d + best),best,wrap64 (kk - 1),.slice A2 (ou.length + 1) c2_,ou ++ [best],by first|rfl|(simp;done)|(simp [*];done),by first|rfl|(simp;done)|(simp [*];done),by first|rfl|(simp;done)|(simp [*];done),H',⟨by have:=HK1.out;omega⟩,⟨by (with_reducible repeat (first|refine SE.drewN ?_ _|refine SE.drew ?_|refine SE.alloc ?_ _));exact SE.put HS.out⟩⟩
     case neg =>
      rw [if_neg c5] at H;have e_:=Option.some.inj H;subst e_;have c5b0 : decide (kk > 0) = false:=decide_eq_false c5;clear c5;obtain ⟨Ao,co,eo⟩:=Kd.R_slice HS.out.ol;subst eo;have hcqo0 : wr.cell? ⟨go,0,none⟩ = some (.bool true):=(kC HS.out.ob 0).trans rfl;have hcqo1 : wr.cell? ⟨go,1,none⟩ = some (.int .i64 k0):=(kC HS.out.ob 1).trans rfl;have hcqo2 : wr.cell? ⟨go,2,none⟩ = some (.slice Ao ou.length co):=(kC HS.out.ob 2).trans rfl;have hfqo0:=kF HS.out.ob 0;have hfqo1:=kF HS.out.ob 1;have hfqo2:=kF HS.out.ob 2;have hcqr0 : wr.cell? ⟨gr,0,none⟩ = some (.bool false):=(kC HS.out.sz.rb 0).trans rfl;have hcqr1 : wr.cell? ⟨gr,1,none⟩ = some (.int .i64 0):=(kC HS.out.sz.rb 1).trans rfl;have hcqr2 : wr.cell? ⟨gr,2,none⟩ = some (.slice none 0 0):=(kC HS.out.sz.rb 2).trans rfl;have hfqr0:=kF HS.out.sz.rb 0;have hfqr1:=kF HS.out.sz.rb 1;have hfqr2:=kF HS.out.sz.rb 2;go_wp2;refine bodyPost_ret (results_cell_row rfl _ _ gr 41 #[.bool true,.int .i64 k0,.slice Ao ou.length co] (0,0) _ rfl (by (with_reducible repeat (first|refine kN ?_ _|refine kD ?_|refine kA ?_ _));refine blk_put (cs:=#[.bool true,.int .i64 k0,.slice none 0 0]) ?_ 2 _ rfl;(with_reducible repeat (first|refine kN ?_ _|refine kD ?_|refine kA ?_ _));refine blk_put (cs:=#[.bool true,.int .i64 0,.slice none 0 0]) ?_ 1 _ rfl;(with_reducible repeat (first|refine kN ?_ _|refine kD ?_|refine kA ?_ _));refine blk_put (cs:=#[.bool false,.int .i64 0,.slice none 0 0]) ?_ 0 _ rfl;(with_reducible repeat (first|refine kN ?_ _|refine kD ?_|refine kA ?_ _));skip;exact HS.out.sz.rb) Try.underlying41 rfl (by kernel_rfl)) rfl ?_;exact ⟨.slice Ao ou.length co,by rfl,by (with_reducible repeat (first|apply Kd.R_alloc|apply Kd.R_drewN|apply Kd.R_drew));refine Kd.R_mono (Kd.R_far (Kd.R_far (Kd.R_far HS.out.ol (fun k hk => hk.2.1) _) (fun k hk => hk.2.1) _) (fun k hk => hk.2.1) _) (fun _ _ => trivial),by repeat (first|(with_reducible first|exact HS.out.sz.bw|apply bA|apply bN|apply bD|refine bS ?_ HS.out.sz.nr)|exact HS.out.sz.bw)⟩
set_option maxHeartbeats 80000000 in
set_option maxRecDepth 100000 in
theorem spec_Fastest.calls (k : Nat) (A0_0 : Option Addr) (c0_0 : Nat) (l0_0 : List S39) (A0_1 : Option Addr) (c0_1 : Nat) (l0_1 : List S45) (a0_2 a0_3 a0_4 a1 a2 a3 : Int) (r1 : Bool) (r2 : Int) (r3 : List Int) (w : World) (hr0_0 : Kd.C k39 w A0_0 l0_0.length l0_0) (hc0_0 : l0_0.length ≤ c0_0) (hr0_1 : Kd.C k45 w A0_1 l0_1.length l0_1) (hc0_1 : l0_1.length ≤ c0_1) (h : spec_Fastest.f k l0_0 l0_1 a0_2 a0_3 a0_4 a1 a2 a3 = some (r1,r2,r3)) :
  Calls Try.prog 18 #[.agg #[.slice A0_0 l0_0.length c0_0,.slice A0_1 l0_1.length c0_1,.int .i64 a0_2,.int .i64 a0_3,.int .i64 a0_4],.int .i64 a1,.int .i64 a2,.int .i64 a3] w fun e w' => ∃ v_ : Value,e = .returned (.agg #[.bool r1,.int .i64 r2,v_])∧Kd.R (Kd.int .i64) 3 w' w.heap.size (fun _ => True) v_ r3∧Below w.heap.size w w' :=
 spec_Fastest.calls0 k ⟨A0_0,c0_0,l0_0,A0_1,c0_1,l0_1,a0_2,a0_3,a0_4,a1,a2,a3⟩ r1 r2 r3 w ⟨hr0_0,hc0_0,hr0_1,hc0_1⟩ h
theorem fl1.mono (en x sh n : Int) : ∀ k,∀ M li d,LeO (fl1 en x sh n k M li d) (fl1 en x sh n (k + 1) M li d)
 | 0 => fun _ _ _ r h => by simp [fl1] at h
 | k + 1 => by
  have ih0:=fl1.mono en x sh n k;intro M li d;unfold fl1
  repeat' first
   | (with_reducible exact ih0 _ _ _)
   | (with_reducible exact LeO.refl _)
   | (with_reducible exact LeO.none _)
   | (with_reducible refine LeO.ite ?_ ?_)
   | (with_reducible refine LeO.bind ?_ (fun _ => ?_))
theorem fl3.mono (l0 : List S39) (l1 : List S45) (tr en de ac x i w d : Int) : ∀ k,∀ M li v,LeO (fl3 l0 l1 tr en de ac x i w d k M li v) (fl3 l0 l1 tr en de ac x i w d (k + 1) M li v)
 | 0 => fun _ _ _ r h => by simp [fl3] at h
 | k + 1 => by
  have ih0:=fl3.mono l0 l1 tr en de ac x i w d k;intro M li v;unfold fl3
  repeat' first
   | (with_reducible exact ih0 _ _ _)
   | (with_reducible exact spec_l2rate.mono _ _ _ _ _ _ _)
   | (with_reducible exact LeO.refl _)
   | (with_reducible exact LeO.none _)
   | (with_reducible refine LeO.ite ?_ ?_)
   | (with_reducible refine LeO.bind ?_ (fun _ => ?_))
theorem fl2.mono (l0 : List S39) (l1 : List S45) (tr en de ac x : Int) : ∀ k,∀ M li i,LeO (fl2 l0 l1 tr en de ac x k M li i) (fl2 l0 l1 tr en de ac x (k + 1) M li i)
 | 0 => fun _ _ _ r h => by simp [fl2] at h
 | k + 1 => by
  have ih0:=fl2.mono l0 l1 tr en de ac x k;intro M li i;unfold fl2
  repeat' first
   | (with_reducible exact ih0 _ _ _)
   | (with_reducible exact fl3.mono _ _ _ _ _ _ _ _ _ _ _ _ _ _)
   | (with_reducible exact spec_l3may.mono _ _ _ _ _ _ _ _)
   | (with_reducible exact LeO.refl _)
   | (with_reducible exact LeO.none _)
   | (with_reducible refine LeO.ite ?_ ?_)
   | (with_reducible refine LeO.bind ?_ (fun _ => ?_))
theorem spec_fill.mono : ∀ a0 a1 a2 a3 a4 a5 a6 a7 k,LeO (spec_fill.f k a0 a1 a2 a3 a4 a5 a6 a7) (spec_fill.f (k + 1) a0 a1 a2 a3 a4 a5 a6 a7):=by
 intro a0 a1 a2 a3 a4 a5 a6 a7 k;unfold spec_fill.f
 repeat' first
  | (with_reducible exact fl1.mono _ _ _ _ _ _ _ _)
  | (with_reducible exact fl2.mono _ _ _ _ _ _ _ _ _ _ _)
  | (with_reducible exact LeO.refl _)
  | (with_reducible exact LeO.none _)
  | (with_reducible refine LeO.ite ?_ ?_)
  | (with_reducible refine LeO.bind ?_ (fun _ => ?_))
theorem sl1.mono (l0 : List S39) (l1 : List S45) (tr en de x : Int) (M : List Int) (d hi kk : Int) : ∀ k,∀ z best,LeO (sl1 l0 l1 tr en de x M d hi kk k z best) (sl1 l0 l1 tr en de x M d hi kk (k + 1) z best)
 | 0 => fun _ _ r h => by simp [sl1] at h
 | k + 1 => by
  have ih0:=sl1.mono l0 l1 tr en de x M d hi kk k;intro z best;unfold sl1
  repeat' first
   | (with_reducible exact ih0 _ _)
   | (with_reducible exact spec_l3may.mono _ _ _ _ _ _ _ _)
   | (with_reducible exact LeO.refl _)
   | (with_reducible exact LeO.none _)
   | (with_reducible refine LeO.ite ?_ ?_)
   | (with_reducible refine LeO.bind ?_ (fun _ => ?_))
theorem sl0.mono (l0 : List S39) (l1 : List S45) (tr en de ac x : Int) (M : List Int) : ∀ k,∀ d v kk ou,LeO (sl0 l0 l1 tr en de ac x M k d v kk ou) (sl0 l0 l1 tr en de ac x M (k + 1) d v kk ou)
 | 0 => fun _ _ _ _ r h => by simp [sl0] at h
 | k + 1 => by
  have ih0:=sl0.mono l0 l1 tr en de ac x M k;intro d v kk ou;unfold sl0
  repeat' first
   | (with_reducible exact ih0 _ _ _ _)
   | (with_reducible exact spec_l2rate.mono _ _ _ _ _ _ _)
   | (with_reducible exact sl1.mono _ _ _ _ _ _ _ _ _ _ _ _ _)
   | (with_reducible exact LeO.refl _)
   | (with_reducible exact LeO.none _)
   | (with_reducible refine LeO.ite ?_ ?_)
   | (with_reducible refine LeO.bind ?_ (fun _ => ?_))
theorem spec_Fastest.mono : ∀ a0 a1 a2 a3 a4 a5 a6 a7 k,LeO (spec_Fastest.f k a0 a1 a2 a3 a4 a5 a6 a7) (spec_Fastest.f (k + 1) a0 a1 a2 a3 a4 a5 a6 a7):=by
 intro a0 a1 a2 a3 a4 a5 a6 a7 k;unfold spec_Fastest.f
 repeat' first
  | (with_reducible exact spec_l4good.mono _ _ _ _ _ _ _ _ _)
  | (with_reducible exact spec_fill.mono _ _ _ _ _ _ _ _ _)
  | (with_reducible exact sl0.mono _ _ _ _ _ _ _ _ _ _ _ _ _)
  | (with_reducible exact LeO.refl _)
  | (with_reducible exact LeO.none _)
  | (with_reducible refine LeO.ite ?_ ?_)
  | (with_reducible refine LeO.bind ?_ (fun _ => ?_))

end Go.Proofs.Ytanjbdgmnecacaa.PR
