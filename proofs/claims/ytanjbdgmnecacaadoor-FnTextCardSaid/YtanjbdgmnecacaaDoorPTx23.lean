-- Written by a program of this session (wip/print/myprint.py) over the kit's print, with contracts of its own; not a text of print.sh's.
import Derived.Test.YtanjbdgmnecacaaDoorPTx0
namespace Go.Proofs.YtanjbdgmnecacaaDoor.PT
open Go.RowKit Go.Proofs.YtanjbdgmnecacaaDoorW.PrintWords Go.Proofs.YtanjbdgmnecacaaDoorW.PrintLast Go.Proofs.YtanjbdgmnecacaaDoorW.PrintMore
attribute [local go_sem] max2_int min2_int max_two min_two   -- for this text's walks alone
set_option linter.unusedVariables false
set_option linter.unusedSimpArgs false

/-- A state of type 64 at block g of W; what its slices lead to came in by w0. -/
def IsS64 (w0 W : World) (g : Nat) (f0 : ByteArray) (f1 : Int) (f2 : Int) : Prop:=W.heap[g]? = some (.cells #[.string f0,.int .i64 f1,.int .i64 f2] 64 (0,0))∧w0.heap.size ≤ g
theorem IsS64.grown {w0 W : World} {g : Nat} {f0 : ByteArray} {f1 : Int} {f2 : Int} {W1 : World} {row : Option Nat} (h : IsS64 w0 W g f0 f1 f2) (hw : W.grownBy W1 row) (hne : some g ≠ row) : IsS64 w0 W1 g f0 f1 f2:=by
 obtain ⟨hb,hg⟩:=h;exact ⟨blk_grown hb hw hne,hg⟩
theorem IsS64.below {w0 W : World} {g : Nat} {f0 : ByteArray} {f1 : Int} {f2 : Int} {W1 : World} (h : IsS64 w0 W g f0 f1 f2) (hw : Below W.heap.size W W1) : IsS64 w0 W1 g f0 f1 f2:=h.grown (grown_of_below hw none) (by simp)
theorem IsS64.alloc {w0 W : World} {g : Nat} {f0 : ByteArray} {f1 : Int} {f2 : Int} (h : IsS64 w0 W g f0 f1 f2) (o : Obj) : IsS64 w0 (W.alloc o) g f0 f1 f2:=h.below (bA (Below.refl _ _) o)
theorem IsS64.drewN {w0 W : World} {g : Nat} {f0 : ByteArray} {f1 : Int} {f2 : Int} (h : IsS64 w0 W g f0 f1 f2) (m : Nat) : IsS64 w0 (W.drewN m) g f0 f1 f2:=h
theorem IsS64.drew {w0 W : World} {g : Nat} {f0 : ByteArray} {f1 : Int} {f2 : Int} (h : IsS64 w0 W g f0 f1 f2) : IsS64 w0 W.drew g f0 f1 f2:=h
theorem IsS64.apart {w0 W : World} {g : Nat} {f0 : ByteArray} {f1 : Int} {f2 : Int} {α : Type} {d : Kd α} {e : Nat} {base : Nat} {ok : Nat → Prop} {v : Value} {xs : List α} (h : IsS64 w0 W g f0 f1 f2) (ho : d.R e W base ok v xs) (ht : ∀ q,q ∈ e :: d.E → q ≠ 64) : d.R e W base (fun k => ok k∧k ≠ g) v xs:=by
 obtain ⟨hb,hg⟩:=h;exact Kd.R_types ho hb ht
theorem IsS64.own_ne {w0 W : World} {g : Nat} {f0 : ByteArray} {f1 : Int} {f2 : Int} {α : Type} {d : Kd α} {e : Nat} {base : Nat} {ok : Nat → Prop} {v : Value} {xs : List α} (h : IsS64 w0 W g f0 f1 f2) (ho : d.R e W base ok v xs) (ht : e ≠ 64) : some g ≠ v.ownBlock:=by
 obtain ⟨hb,hg⟩:=h;exact Kd.R_ne ho hb ht
theorem IsS64.ge {w0 W : World} {g : Nat} {f0 : ByteArray} {f1 : Int} {f2 : Int} (h : IsS64 w0 W g f0 f1 f2) : w0.heap.size ≤ g:=by
 obtain ⟨hb,hg⟩:=h;exact hg
theorem IsS64.far {w0 W : World} {g : Nat} {f0 : ByteArray} {f1 : Int} {f2 : Int} {p : Addr} (h : IsS64 w0 W g f0 f1 f2) (hne : g ≠ p.block) (u : Value) : IsS64 w0 (W.setCell p u) g f0 f1 f2:=by
 obtain ⟨hb,hg⟩:=h;exact ⟨blk_far hb hne u,hg⟩
theorem cellS64_0 {W : World} {g : Nat} {f0 : ByteArray} {f1 : Int} {f2 : Int} (h : W.heap[g]? = some (.cells #[.string f0,.int .i64 f1,.int .i64 f2] 64 (0,0))) : W.cell? ⟨g,0,none⟩ = some (.string f0):=(kC h 0).trans rfl
theorem IsS64.set_0 {w0 W : World} {g : Nat} {f0 : ByteArray} {f1 : Int} {f2 : Int} (h : IsS64 w0 W g f0 f1 f2) (x : ByteArray) : IsS64 w0 (W.setCell ⟨g,0,none⟩ (.string x)) g x f1 f2:=by
 obtain ⟨hb,hg⟩:=h;exact ⟨by simpa using blk_set hb 0 (.string x),hg⟩
theorem cellS64_1 {W : World} {g : Nat} {f0 : ByteArray} {f1 : Int} {f2 : Int} (h : W.heap[g]? = some (.cells #[.string f0,.int .i64 f1,.int .i64 f2] 64 (0,0))) : W.cell? ⟨g,1,none⟩ = some (.int .i64 f1):=(kC h 1).trans rfl
theorem IsS64.set_1 {w0 W : World} {g : Nat} {f0 : ByteArray} {f1 : Int} {f2 : Int} (h : IsS64 w0 W g f0 f1 f2) (x : Int) : IsS64 w0 (W.setCell ⟨g,1,none⟩ (.int .i64 x)) g f0 x f2:=by
 obtain ⟨hb,hg⟩:=h;exact ⟨by simpa using blk_set hb 1 (.int .i64 x),hg⟩
theorem cellS64_2 {W : World} {g : Nat} {f0 : ByteArray} {f1 : Int} {f2 : Int} (h : W.heap[g]? = some (.cells #[.string f0,.int .i64 f1,.int .i64 f2] 64 (0,0))) : W.cell? ⟨g,2,none⟩ = some (.int .i64 f2):=(kC h 2).trans rfl
theorem IsS64.set_2 {w0 W : World} {g : Nat} {f0 : ByteArray} {f1 : Int} {f2 : Int} (h : IsS64 w0 W g f0 f1 f2) (x : Int) : IsS64 w0 (W.setCell ⟨g,2,none⟩ (.int .i64 x)) g f0 f1 x:=by
 obtain ⟨hb,hg⟩:=h;exact ⟨by simpa using blk_set hb 2 (.int .i64 x),hg⟩

theorem IsS64.kp {w0 W : World} {g : Nat} {f0 : ByteArray} {f1 : Int} {f2 : Int} {α : Type} {d : Kd α} {e : Nat} {base : Nat} {ok : Nat → Prop} {v : Value} {xs : List α} {Wi_ W1_ w1_ : World} (h : As (IsS64 w0 Wi_ g f0 f1 f2)) (ho : As (d.R e W base ok v xs)) (hk : KeepBut W1_ w1_ g none) (ht : ∀ q,q ∈ e :: d.E → q ≠ 64 := by decide) (h1 : IsS64 w0 Wi_ g f0 f1 f2 → IsS64 w0 W g f0 f1 f2 := by intro h_; repeat (first|(with_reducible first|exact h_|apply IsS64.alloc|apply IsS64.drewN|apply IsS64.drew)|refine IsS64.far ?_ (Aside0.out (by assumption)) _)) (h2 : d.R e W base (fun k => ok k∧k ≠ g) v xs → d.R e W1_ base (fun k => ok k∧k ≠ g) v xs := by intro h_; repeat (with_reducible first|exact h_|apply Kd.R_alloc|apply Kd.R_drewN|apply Kd.R_drew)) : d.R e w1_ base ok v xs:=
 Kd.R_mono (Kd.R_keep (h2 (IsS64.apart (h1 h.out) ho.out ht)) hk (fun _ h => h.2)) (fun _ h => h.1)
/-! ### spec_l5R_word: function 23 -/
mutual
def spec_l5R_word.l0 : Nat → Int → List ByteArray → Int → Int → ByteArray → Int → Int → Option (ByteArray × ByteArray × Int × Int)
 | 0,_,_,_,_,_,_,_ => none
 | k + 1,x5,x9,x10,x11,x1000,x1001,x1002 => if x11 < x10 then (if 0 ≤ x11 then (if x11 < (x9.length : Int) then (spec_l5R_word.l1 k x5 (rdOf ByteArray.empty x9 x11) 0 x9 x10 x11 x1000 x1001 x1002) else (none)) else (none)) else (some ((⟨#[]⟩ : ByteArray),x1000,x1001,wrap64 (x1001 + x5)))
def spec_l5R_word.j2 : Nat → Int → ByteArray → Int → List ByteArray → Int → Int → ByteArray → Int → Int → Option (ByteArray × ByteArray × Int × Int)
 | 0,_,_,_,_,_,_,_,_,_ => none
 | k + 1,x5,x7,x8,x9,x10,x11,x1000,x1001,x1002 => if x8 = (x7.size : Int) then (some (x7,x1000,wrap64 (x1001 + x8),x1002)) else (if x8 > x5 then (spec_l5R_word.l0 k x8 x9 x10 (wrap64 (x11 + 1)) x1000 x1001 x1002) else (spec_l5R_word.l0 k x5 x9 x10 (wrap64 (x11 + 1)) x1000 x1001 x1002))
def spec_l5R_word.l1 : Nat → Int → ByteArray → Int → List ByteArray → Int → Int → ByteArray → Int → Int → Option (ByteArray × ByteArray × Int × Int)
 | 0,_,_,_,_,_,_,_,_,_ => none
 | k + 1,x5,x7,x8,x9,x10,x11,x1000,x1001,x1002 => if x8 < (x7.size : Int) then (if (wrap64 (x1001 + x8)) < (x1000.size : Int) then (if 0 ≤ (wrap64 (x1001 + x8)) then (if 0 ≤ x8 then (if (bt x1000 (wrap64 (x1001 + x8))) = (bt x7 x8) then (spec_l5R_word.l1 k x5 x7 (wrap64 (x8 + 1)) x9 x10 x11 x1000 x1001 x1002) else (spec_l5R_word.j2 k x5 x7 x8 x9 x10 x11 x1000 x1001 x1002)) else (none)) else (none)) else (spec_l5R_word.j2 k x5 x7 x8 x9 x10 x11 x1000 x1001 x1002)) else (spec_l5R_word.j2 k x5 x7 x8 x9 x10 x11 x1000 x1001 x1002)
end
def spec_l5R_word.f (k : Nat) (s0_0 : ByteArray) (s0_1 : Int) (s0_2 : Int) (l1 : List ByteArray) : Option (ByteArray × ByteArray × Int × Int):=spec_l5R_word.l0 k 0 l1 (l1.length : Int) 0 s0_0 s0_1 s0_2
theorem spec_l5R_word.mono_l : ∀ k,(∀ y0 y1 y2 y3 y4 y5 y6,LeO (spec_l5R_word.l0 k y0 y1 y2 y3 y4 y5 y6) (spec_l5R_word.l0 (k + 1) y0 y1 y2 y3 y4 y5 y6))∧(∀ y0 y1 y2 y3 y4 y5 y6 y7 y8,LeO (spec_l5R_word.j2 k y0 y1 y2 y3 y4 y5 y6 y7 y8) (spec_l5R_word.j2 (k + 1) y0 y1 y2 y3 y4 y5 y6 y7 y8))∧(∀ y0 y1 y2 y3 y4 y5 y6 y7 y8,LeO (spec_l5R_word.l1 k y0 y1 y2 y3 y4 y5 y6 y7 y8) (spec_l5R_word.l1 (k + 1) y0 y1 y2 y3 y4 y5 y6 y7 y8))
 | 0 => ⟨fun _ _ _ _ _ _ _ r h => by simp [spec_l5R_word.l0] at h,fun _ _ _ _ _ _ _ _ _ r h => by simp [spec_l5R_word.j2] at h,fun _ _ _ _ _ _ _ _ _ r h => by simp [spec_l5R_word.l1] at h⟩
 | k + 1 => by
  obtain ⟨ih0,ih1,ih2⟩:=spec_l5R_word.mono_l k;refine ⟨?_,?_,?_⟩
  ·intro y0 y1 y2 y3 y4 y5 y6;unfold spec_l5R_word.l0
   repeat' first
   | (with_reducible exact ih0 _ _ _ _ _ _ _)
   | (with_reducible exact ih1 _ _ _ _ _ _ _ _ _)
   | (with_reducible exact ih2 _ _ _ _ _ _ _ _ _)
   | (with_reducible exact LeO.refl _)
   | (with_reducible exact LeO.none _)
   | (with_reducible refine LeO.ite ?_ ?_)
   | (with_reducible refine LeO.bind ?_ (fun _ => ?_))
   | exact ih0 _ _ _ _ _ _ _
   | exact ih1 _ _ _ _ _ _ _ _ _
   | exact ih2 _ _ _ _ _ _ _ _ _
   | exact LeO.none _
   | refine LeO.ite ?_ ?_
   | refine LeO.bind ?_ (fun _ => ?_)
  ·intro y0 y1 y2 y3 y4 y5 y6 y7 y8;unfold spec_l5R_word.j2
   repeat' first
   | (with_reducible exact ih0 _ _ _ _ _ _ _)
   | (with_reducible exact ih1 _ _ _ _ _ _ _ _ _)
   | (with_reducible exact ih2 _ _ _ _ _ _ _ _ _)
   | (with_reducible exact LeO.refl _)
   | (with_reducible exact LeO.none _)
   | (with_reducible refine LeO.ite ?_ ?_)
   | (with_reducible refine LeO.bind ?_ (fun _ => ?_))
   | exact ih0 _ _ _ _ _ _ _
   | exact ih1 _ _ _ _ _ _ _ _ _
   | exact ih2 _ _ _ _ _ _ _ _ _
   | exact LeO.none _
   | refine LeO.ite ?_ ?_
   | refine LeO.bind ?_ (fun _ => ?_)
  ·intro y0 y1 y2 y3 y4 y5 y6 y7 y8;unfold spec_l5R_word.l1
   repeat' first
   | (with_reducible exact ih0 _ _ _ _ _ _ _)
   | (with_reducible exact ih1 _ _ _ _ _ _ _ _ _)
   | (with_reducible exact ih2 _ _ _ _ _ _ _ _ _)
   | (with_reducible exact LeO.refl _)
   | (with_reducible exact LeO.none _)
   | (with_reducible refine LeO.ite ?_ ?_)
   | (with_reducible refine LeO.bind ?_ (fun _ => ?_))
   | exact ih0 _ _ _ _ _ _ _
   | exact ih1 _ _ _ _ _ _ _ _ _
   | exact ih2 _ _ _ _ _ _ _ _ _
   | exact LeO.none _
   | refine LeO.ite ?_ ?_
   | refine LeO.bind ?_ (fun _ => ?_)
theorem spec_l5R_word.mono : ∀ a0 a1 a2 a3 k,LeO (spec_l5R_word.f k a0 a1 a2 a3) (spec_l5R_word.f (k + 1) a0 a1 a2 a3):=by
 intro a0 a1 a2 a3 k;obtain ⟨ih0,ih1,ih2⟩:=spec_l5R_word.mono_l k;unfold spec_l5R_word.f
 repeat' first
   | (with_reducible exact ih0 _ _ _ _ _ _ _)
   | (with_reducible exact ih1 _ _ _ _ _ _ _ _ _)
   | (with_reducible exact ih2 _ _ _ _ _ _ _ _ _)
   | (with_reducible exact LeO.refl _)
   | (with_reducible exact LeO.none _)
   | (with_reducible refine LeO.ite ?_ ?_)
   | (with_reducible refine LeO.bind ?_ (fun _ => ?_))
   | exact ih0 _ _ _ _ _ _ _
   | exact ih1 _ _ _ _ _ _ _ _ _
   | exact ih2 _ _ _ _ _ _ _ _ _
   | exact LeO.none _
   | refine LeO.ite ?_ ?_
   | refine LeO.bind ?_ (fun _ => ?_)
set_option maxHeartbeats 8000000 in
set_option maxRecDepth 100000 in
theorem spec_l5R_word.calls (k : Nat) (g : Nat) (s0_0 : ByteArray) (s0_1 : Int) (s0_2 : Int) (A1 : Option Addr) (c1 : Nat) (l1 : List ByteArray) (r1 : ByteArray) (r2 : ByteArray) (r3 : Int) (r4 : Int) (w0 w : World) (hI : IsS64 w0 w g s0_0 s0_1 s0_2) (hB : Below w0.heap.size w0 w) (hr1 : Kd.C Kd.string w A1 l1.length l1) (hc1 : l1.length ≤ c1) (hf1 : ∀ ad,A1 = some ad → 0 < l1.length → ad.block ≠ g) (h : spec_l5R_word.f k s0_0 s0_1 s0_2 l1 = some (r1,r2,r3,r4)) :
  Calls Tryd.prog 23 #[.pointer (some ⟨g,0,none⟩),.slice A1 l1.length c1] w fun e w' => e = .returned (.string r1)∧IsS64 w0 w' g r2 r3 r4∧Below w0.heap.size w0 w'∧KeepBut w w' g none:=by
 have HR1:=Am hr1;have HC1:=Am hc1;clear hr1 hc1;have HI0:=Am hI;have HK:=Am (KeepBut.refl w g none);have HL:=Am hB.size;clear hI;have HW0:=Am hB.size;have HB:=Am hB;clear hB;have H : (spec_l5R_word.l0 k 0 l1 (l1.length : Int) 0 s0_0 s0_1 s0_2) = some (r1,r2,r3,r4):=h;clear h;have H':=Am H;clear H
 go_enter Tryd.func23,Tryd.ntmps23
 go_wp2
 repeat (go_quiet (fail);try go_wp2)
 go_loopg [5,11] k (fun kq v5 v11 w' => ∃ (x5_1 : Int) (x11_1 : Int) (x1001_1 : Int),v5 = .int .i64 x5_1∧v11 = .int .i64 x11_1∧As (spec_l5R_word.l0 kq x5_1 l1 (l1.length : Int) x11_1 s0_0 x1001_1 s0_2 = some (r1,r2,r3,r4))∧As (kq ≤ k)∧As (IsS64 w0 w' g s0_0 x1001_1 s0_2)∧As (KeepBut w w' g none)∧As (Below w0.heap.size w0 w'))
 case atStart => exact ⟨(0),(0),(s0_1),vL_,vL_,H',⟨Nat.le_refl _⟩,⟨by repeat (first|(with_reducible first|exact HI0.out|apply IsS64.alloc|apply IsS64.drewN|apply IsS64.drew|apply IsS64.set_0|apply IsS64.set_1|apply IsS64.set_2)|exact HI0.out)⟩,⟨by repeat (first|(with_reducible first|exact HK.out|apply KeepBut.set_|apply keep_drewN|apply keep_drew|apply keep_alloc)|exact HK.out)⟩,⟨by repeat (first|(with_reducible first|exact HB.out|apply bA|apply bN|apply bD|refine bS ?_ (IsS64.ge HI0.out))|exact HB.out)⟩⟩
 case round =>
  clear H';(try clear c1);(try clear c2);(try clear p2);obtain ⟨x5_1,x11_1,x1001_1,rfl,rfl,HA,HK1,HI0,HK,HB⟩:=hrel
  cases gk with
  | zero => exact absurd HA.out (by simp [spec_l5R_word.l0])
  | succ k1 =>
   have H:=HA.out;clear HA;simp only [spec_l5R_word.l0] at H
   by_cases c3 : x11_1 < (l1.length : Int)
   ·rw [if_pos c3] at H;have c3b0 : decide (x11_1 < (l1.length : Int)) = true:=decide_eq_true c3;clear c3
    by_cases c4 : 0 ≤ x11_1
    ·rw [if_pos c4] at H;have c4b0 : decide (0 ≤ x11_1) = true:=decide_eq_true c4;clear c4
     by_cases c5 : x11_1 < (l1.length : Int)
     ·rw [if_pos c5] at H;have c5b0 : decide (x11_1 < (l1.length : Int)) = true:=decide_eq_true c5;clear c5;have HC6:=Am H;clear H;have p346 : 0 ≤ (x11_1 : Int):=of_decide_eq_true (by first|(with_reducible assumption)|assumption);have q346 : x11_1 < (l1.length : Int):=of_decide_eq_true (by first|(with_reducible assumption)|assumption);obtain ⟨ad346,e346,hx346_0⟩:=Kd.at_string HR1.out x11_1 p346 q346;cases e346;replace hx346_0:=keep_cell HK.out hx346_0 (by first|(rw [add_block];exact hf1 _ rfl (by omega))|exact hf1 _ rfl (by omega)|exact hf1 ad346 rfl (by omega));replace p346:=eq_true p346;replace q346:=eq_true q346
      go_upto_block 2 with (fail)
      repeat (go_quiet (fail);go_upto_block 2 with (fail))
      go_cut [8] (fun v8 wc => ∃ (kq : Nat) (x8_5 : Int),v8 = .int .i64 x8_5∧As (spec_l5R_word.j2 kq x5_1 (rdOf ByteArray.empty l1 x11_1) x8_5 l1 (l1.length : Int) x11_1 s0_0 x1001_1 s0_2 = some (r1,r2,r3,r4))∧As (kq ≤ k1)∧As (IsS64 w0 wc g s0_0 x1001_1 s0_2)∧As (KeepBut w wc g none)∧As (Below w0.heap.size w0 wc))
      case first =>
       have H:=HC6.out;clear HC6;have H':=Am H;clear H;go_wp2
       repeat (go_quiet (fail);try go_wp2)
       go_loopg [8] k1 (fun kq v8 w' => ∃ (x8_2 : Int),v8 = .int .i64 x8_2∧As (spec_l5R_word.l1 kq x5_1 (rdOf ByteArray.empty l1 x11_1) x8_2 l1 (l1.length : Int) x11_1 s0_0 x1001_1 s0_2 = some (r1,r2,r3,r4))∧As (kq ≤ k1)∧As (IsS64 w0 w' g s0_0 x1001_1 s0_2)∧As (KeepBut w w' g none)∧As (Below w0.heap.size w0 w'))
       case atStart => exact ⟨(0),vL_,H',⟨Nat.le_refl _⟩,⟨by repeat (first|(with_reducible first|exact HI0.out|apply IsS64.alloc|apply IsS64.drewN|apply IsS64.drew|apply IsS64.set_0|apply IsS64.set_1|apply IsS64.set_2)|exact HI0.out)⟩,⟨by repeat (first|(with_reducible first|exact HK.out|apply KeepBut.set_|apply keep_drewN|apply keep_drew|apply keep_alloc)|exact HK.out)⟩,⟨by repeat (first|(with_reducible first|exact HB.out|apply bA|apply bN|apply bD|refine bS ?_ (IsS64.ge HI0.out))|exact HB.out)⟩⟩
       case round =>
        clear H';(try clear c1);(try clear c2);(try clear p2);(try clear c3);(try clear c3b0);(try clear p3);(try clear q3);(try clear hx3);(try clear c4);(try clear c4b0);(try clear c5);(try clear c5b0);(try clear hx346_0);(try clear p2);(try clear p346);(try clear q346);obtain ⟨x8_2,rfl,HA,HK2,HI0,HK,HB⟩:=hrel
        cases gk with
        | zero => exact absurd HA.out (by simp [spec_l5R_word.l1])
        | succ k2 =>
         have H:=HA.out;clear HA;simp only [spec_l5R_word.l1] at H
         by_cases c7 : x8_2 < ((rdOf ByteArray.empty l1 x11_1).size : Int)
         ·rw [if_pos c7] at H;have c7b0 : decide (x8_2 < ((rdOf ByteArray.empty l1 x11_1).size : Int)) = true:=decide_eq_true c7;clear c7
          (first|rw [c7b0]|(simp only [i64_w,i32_w];rw [c7b0])|skip)
          by_cases c8 : (wrap64 (x1001_1 + x8_2)) < (s0_0.size : Int)
          ·rw [if_pos c8] at H;have c8b0 : decide ((wrap64 (x1001_1 + x8_2)) < (s0_0.size : Int)) = true:=decide_eq_true c8;clear c8
           obtain ⟨ji9,hji9⟩ : ∃ j_ : Int,(wrap64 (x1001_1 + x8_2)) = j_:=⟨_,rfl⟩
           replace H : (if 0 ≤ (ji9) then (if 0 ≤ x8_2 then (if (bt s0_0 (ji9)) = (bt (rdOf ByteArray.empty l1 x11_1) x8_2) then (spec_l5R_word.l1 k2 x5_1 (rdOf ByteArray.empty l1 x11_1) (wrap64 (x8_2 + 1)) l1 (l1.length : Int) x11_1 s0_0 x1001_1 s0_2) else (spec_l5R_word.j2 k2 x5_1 (rdOf ByteArray.empty l1 x11_1) x8_2 l1 (l1.length : Int) x11_1 s0_0 x1001_1 s0_2)) else (none)) else (none)) = some (r1,r2,r3,r4):=by first|(rw [hji9] at H;exact H)|(simp only [hji9] at H ⊢;exact H)
           (try rw [hji9] at c8b0)
           have hji9w : (IntKind.i64.wrap (x1001_1 + x8_2)) = ji9:=(i64_w _).trans hji9
           by_cases c10 : 0 ≤ (ji9)
           ·rw [if_pos c10] at H;have c10b0 : decide (0 ≤ (ji9)) = true:=decide_eq_true c10;clear c10
            by_cases c12 : 0 ≤ x8_2
            ·rw [if_pos c12] at H;have c12b0 : decide (0 ≤ x8_2) = true:=decide_eq_true c12;clear c12
             by_cases c14 : (bt s0_0 (ji9)) = (bt (rdOf ByteArray.empty l1 x11_1) x8_2)
             ·rw [if_pos c14] at H;have c14b0 : ((bt s0_0 (ji9)) == (bt (rdOf ByteArray.empty l1 x11_1) x8_2)) = true:=beq_iff_eq.mpr c14;have c14b1 : ((bt s0_0 (ji9)) != (bt (rdOf ByteArray.empty l1 x11_1) x8_2)) = false:=bne_eq_false_iff_eq.mpr c14;clear c14;have H':=Am H;clear H;obtain ⟨HGz15,hgz15⟩:=HI0.out;have hcz15_0:=cellS64_0 HGz15;have hcz15_1:=cellS64_1 HGz15;have hcz15_2:=cellS64_2 HGz15;have hfz15_0:=kF HGz15 0;have hfz15_1:=kF HGz15 1;have hfz15_2:=kF HGz15 2;clear HGz15 hgz15;have p11 : 0 ≤ ((ji9) : Int):=of_decide_eq_true (by first|(with_reducible assumption)|assumption);have q11 : (ji9) < (s0_0.size : Int):=of_decide_eq_true (by first|(with_reducible assumption)|assumption);have hx11:=bt_at s0_0 (ji9);replace p11:=eq_true p11;replace q11:=eq_true q11;have p13 : 0 ≤ (x8_2 : Int):=of_decide_eq_true (by first|(with_reducible assumption)|assumption);have q13 : x8_2 < ((rdOf ByteArray.empty l1 x11_1).size : Int):=of_decide_eq_true (by first|(with_reducible assumption)|assumption);have hx13:=bt_at (rdOf ByteArray.empty l1 x11_1) x8_2;replace p13:=eq_true p13;replace q13:=eq_true q13;go_wp2
              repeat (go_quiet (fail);try go_wp2)
              go_roundg k2
              case measure => have:=HK1.out;have:=HK2.out;omega
              case rel => exact ⟨(wrap64 (x8_2 + 1)),vL_,H',⟨by have:=HK1.out;have:=HK2.out;omega⟩,⟨by repeat (first|(with_reducible first|exact HI0.out|apply IsS64.alloc|apply IsS64.drewN|apply IsS64.drew|apply IsS64.set_0|apply IsS64.set_1|apply IsS64.set_2)|exact HI0.out)⟩,⟨by repeat (first|(with_reducible first|exact HK.out|apply KeepBut.set_|apply keep_drewN|apply keep_drew|apply keep_alloc)|exact HK.out)⟩,⟨by repeat (first|(with_reducible first|exact HB.out|apply bA|apply bN|apply bD|refine bS ?_ (IsS64.ge HI0.out))|exact HB.out)⟩⟩
             ·rw [if_neg c14] at H;have c14b0 : ((bt s0_0 (ji9)) == (bt (rdOf ByteArray.empty l1 x11_1) x8_2)) = false:=beq_eq_false_iff_ne.mpr c14;have c14b1 : ((bt s0_0 (ji9)) != (bt (rdOf ByteArray.empty l1 x11_1) x8_2)) = true:=bne_iff_ne.mpr c14;clear c14;have H':=Am H;clear H;obtain ⟨HGz16,hgz16⟩:=HI0.out;have hcz16_0:=cellS64_0 HGz16;have hcz16_1:=cellS64_1 HGz16;have hcz16_2:=cellS64_2 HGz16;have hfz16_0:=kF HGz16 0;have hfz16_1:=kF HGz16 1;have hfz16_2:=kF HGz16 2;clear HGz16 hgz16;have p11 : 0 ≤ ((ji9) : Int):=of_decide_eq_true (by first|(with_reducible assumption)|assumption);have q11 : (ji9) < (s0_0.size : Int):=of_decide_eq_true (by first|(with_reducible assumption)|assumption);have hx11:=bt_at s0_0 (ji9);replace p11:=eq_true p11;replace q11:=eq_true q11;have p13 : 0 ≤ (x8_2 : Int):=of_decide_eq_true (by first|(with_reducible assumption)|assumption);have q13 : x8_2 < ((rdOf ByteArray.empty l1 x11_1).size : Int):=of_decide_eq_true (by first|(with_reducible assumption)|assumption);have hx13:=bt_at (rdOf ByteArray.empty l1 x11_1) x8_2;replace p13:=eq_true p13;replace q13:=eq_true q13;go_wp2
              repeat (go_quiet (fail);try go_wp2)
              go_meet
              case rel => exact ⟨_,(x8_2),vL_,H',⟨by have:=HK1.out;have:=HK2.out;first|omega|exact Nat.le_refl _⟩,⟨by repeat (first|(with_reducible first|exact HI0.out|apply IsS64.alloc|apply IsS64.drewN|apply IsS64.drew|apply IsS64.set_0|apply IsS64.set_1|apply IsS64.set_2)|exact HI0.out)⟩,⟨by repeat (first|(with_reducible first|exact HK.out|apply KeepBut.set_|apply keep_drewN|apply keep_drew|apply keep_alloc)|exact HK.out)⟩,⟨by repeat (first|(with_reducible first|exact HB.out|apply bA|apply bN|apply bD|refine bS ?_ (IsS64.ge HI0.out))|exact HB.out)⟩⟩
            ·rw [if_neg c12] at H;exact absurd H (by simp)
           ·rw [if_neg c10] at H;exact absurd H (by simp)
          ·rw [if_neg c8] at H;have c8b0 : decide ((wrap64 (x1001_1 + x8_2)) < (s0_0.size : Int)) = false:=decide_eq_false c8;clear c8;have H':=Am H;clear H;obtain ⟨HGz17,hgz17⟩:=HI0.out;have hcz17_0:=cellS64_0 HGz17;have hcz17_1:=cellS64_1 HGz17;have hcz17_2:=cellS64_2 HGz17;have hfz17_0:=kF HGz17 0;have hfz17_1:=kF HGz17 1;have hfz17_2:=kF HGz17 2;clear HGz17 hgz17;go_wp2
           repeat (go_quiet (fail);try go_wp2)
           go_meet
           case rel => exact ⟨_,(x8_2),vL_,H',⟨by have:=HK1.out;have:=HK2.out;first|omega|exact Nat.le_refl _⟩,⟨by repeat (first|(with_reducible first|exact HI0.out|apply IsS64.alloc|apply IsS64.drewN|apply IsS64.drew|apply IsS64.set_0|apply IsS64.set_1|apply IsS64.set_2)|exact HI0.out)⟩,⟨by repeat (first|(with_reducible first|exact HK.out|apply KeepBut.set_|apply keep_drewN|apply keep_drew|apply keep_alloc)|exact HK.out)⟩,⟨by repeat (first|(with_reducible first|exact HB.out|apply bA|apply bN|apply bD|refine bS ?_ (IsS64.ge HI0.out))|exact HB.out)⟩⟩
         ·rw [if_neg c7] at H;have c7b0 : decide (x8_2 < ((rdOf ByteArray.empty l1 x11_1).size : Int)) = false:=decide_eq_false c7;clear c7
          (first|rw [c7b0]|(simp only [i64_w,i32_w];rw [c7b0])|skip)
          have H':=Am H;clear H;go_wp2
          repeat (go_quiet (fail);try go_wp2)
          go_meet
          case rel => exact ⟨_,(x8_2),vL_,H',⟨by have:=HK1.out;have:=HK2.out;first|omega|exact Nat.le_refl _⟩,⟨by repeat (first|(with_reducible first|exact HI0.out|apply IsS64.alloc|apply IsS64.drewN|apply IsS64.drew|apply IsS64.set_0|apply IsS64.set_1|apply IsS64.set_2)|exact HI0.out)⟩,⟨by repeat (first|(with_reducible first|exact HK.out|apply KeepBut.set_|apply keep_drewN|apply keep_drew|apply keep_alloc)|exact HK.out)⟩,⟨by repeat (first|(with_reducible first|exact HB.out|apply bA|apply bN|apply bD|refine bS ?_ (IsS64.ge HI0.out))|exact HB.out)⟩⟩
      case rest =>
       clear HC6;(try clear c1);(try clear p1);(try clear q1);(try clear hx1);(try clear c2);(try clear p2);(try clear c3);(try clear c3b0);(try clear p3);(try clear q3);(try clear hx3);(try clear c4);(try clear c4b0);(try clear c5);(try clear c5b0);(try clear p6);(try clear c7);(try clear c7b0);(try clear c8);(try clear c8b0);(try clear c10);(try clear c10b0);(try clear p11);(try clear q11);(try clear hx11);(try clear c12);(try clear c12b0);(try clear p13);(try clear q13);(try clear hx13);(try clear c14);(try clear c14b0);(try clear c14b1);(try clear hcz15_0 hcz15_1 hcz15_2 hcz16_0 hcz16_1 hcz16_2 hcz17_0 hcz17_1 hcz17_2 hfz15_0 hfz15_1 hfz15_2 hfz16_0 hfz16_1 hfz16_2 hfz17_0 hfz17_1 hfz17_2);(try clear hx346_0);(try clear p11);(try clear p13);(try clear p2);(try clear p3);(try clear p346);(try clear q11);(try clear q13);(try clear q3);(try clear q346);obtain ⟨kq,x8_5,rfl,HA,HJ5,HI0,HK,HB⟩:=hcut
       cases kq with
       | zero => exact absurd HA.out (by simp [spec_l5R_word.j2])
       | succ kj5 =>
        have H:=HA.out;clear HA;simp only [spec_l5R_word.j2] at H
        by_cases c18 : x8_5 = ((rdOf ByteArray.empty l1 x11_1).size : Int)
        ·rw [if_pos c18] at H;have c18b0 : (x8_5 == ((rdOf ByteArray.empty l1 x11_1).size : Int)) = true:=beq_iff_eq.mpr c18;have c18b1 : (x8_5 != ((rdOf ByteArray.empty l1 x11_1).size : Int)) = false:=bne_eq_false_iff_eq.mpr c18;clear c18;simp only [Option.some.injEq,Prod.mk.injEq] at H;obtain ⟨rfl,rfl,rfl,rfl⟩:=H;obtain ⟨HGz19,hgz19⟩:=HI0.out;have hcz19_0:=cellS64_0 HGz19;have hcz19_1:=cellS64_1 HGz19;have hcz19_2:=cellS64_2 HGz19;have hfz19_0:=kF HGz19 0;have hfz19_1:=kF HGz19 1;have hfz19_2:=kF HGz19 2;clear HGz19 hgz19;go_wp2
         repeat (go_quiet (fail);try go_wp2)
         go_ret;exact ⟨eL_,by repeat (first|(with_reducible first|exact HI0.out|apply IsS64.alloc|apply IsS64.drewN|apply IsS64.drew|apply IsS64.set_0|apply IsS64.set_1|apply IsS64.set_2)|exact HI0.out),by repeat (first|(with_reducible first|exact HB.out|apply bA|apply bN|apply bD|refine bS ?_ (IsS64.ge HI0.out))|exact HB.out),by repeat (first|(with_reducible first|exact HK.out|apply KeepBut.set_|apply keep_drewN|apply keep_drew|apply keep_alloc)|exact HK.out)⟩
        ·rw [if_neg c18] at H;have c18b0 : (x8_5 == ((rdOf ByteArray.empty l1 x11_1).size : Int)) = false:=beq_eq_false_iff_ne.mpr c18;have c18b1 : (x8_5 != ((rdOf ByteArray.empty l1 x11_1).size : Int)) = true:=bne_iff_ne.mpr c18
         by_cases c20 : x8_5 > x5_1
         ·rw [if_pos c20] at H;have c20b0 : decide (x5_1 < x8_5) = true:=decide_eq_true c20;clear c20;have H':=Am H;clear H;go_wp2
          repeat (go_quiet (fail);try go_wp2)
          go_roundg kj5
          case measure => have:=HK1.out;have:=HJ5.out;omega
          case rel => exact ⟨(x8_5),(wrap64 (x11_1 + 1)),(x1001_1),vL_,vL_,H',⟨by have:=HK1.out;have:=HJ5.out;omega⟩,⟨by repeat (first|(with_reducible first|exact HI0.out|apply IsS64.alloc|apply IsS64.drewN|apply IsS64.drew|apply IsS64.set_0|apply IsS64.set_1|apply IsS64.set_2)|exact HI0.out)⟩,⟨by repeat (first|(with_reducible first|exact HK.out|apply KeepBut.set_|apply keep_drewN|apply keep_drew|apply keep_alloc)|exact HK.out)⟩,⟨by repeat (first|(with_reducible first|exact HB.out|apply bA|apply bN|apply bD|refine bS ?_ (IsS64.ge HI0.out))|exact HB.out)⟩⟩
         ·rw [if_neg c20] at H;have c20b0 : decide (x5_1 < x8_5) = false:=decide_eq_false c20;clear c20;have H':=Am H;clear H;go_wp2
          repeat (go_quiet (fail);try go_wp2)
          go_roundg kj5
          case measure => have:=HK1.out;have:=HJ5.out;omega
          case rel => exact ⟨(x5_1),(wrap64 (x11_1 + 1)),(x1001_1),vL_,vL_,H',⟨by have:=HK1.out;have:=HJ5.out;omega⟩,⟨by repeat (first|(with_reducible first|exact HI0.out|apply IsS64.alloc|apply IsS64.drewN|apply IsS64.drew|apply IsS64.set_0|apply IsS64.set_1|apply IsS64.set_2)|exact HI0.out)⟩,⟨by repeat (first|(with_reducible first|exact HK.out|apply KeepBut.set_|apply keep_drewN|apply keep_drew|apply keep_alloc)|exact HK.out)⟩,⟨by repeat (first|(with_reducible first|exact HB.out|apply bA|apply bN|apply bD|refine bS ?_ (IsS64.ge HI0.out))|exact HB.out)⟩⟩
     ·rw [if_neg c5] at H;exact absurd H (by simp)
    ·rw [if_neg c4] at H;exact absurd H (by simp)
   ·rw [if_neg c3] at H;have c3b0 : decide (x11_1 < (l1.length : Int)) = false:=decide_eq_false c3;clear c3;simp only [Option.some.injEq,Prod.mk.injEq] at H;obtain ⟨rfl,rfl,rfl,rfl⟩:=H;obtain ⟨HGz21,hgz21⟩:=HI0.out;have hcz21_0:=cellS64_0 HGz21;have hcz21_1:=cellS64_1 HGz21;have hcz21_2:=cellS64_2 HGz21;have hfz21_0:=kF HGz21 0;have hfz21_1:=kF HGz21 1;have hfz21_2:=kF HGz21 2;clear HGz21 hgz21;go_wp2
    repeat (go_quiet (fail);try go_wp2)
    go_ret;exact ⟨eL_,by repeat (first|(with_reducible first|exact HI0.out|apply IsS64.alloc|apply IsS64.drewN|apply IsS64.drew|apply IsS64.set_0|apply IsS64.set_1|apply IsS64.set_2)|exact HI0.out),by repeat (first|(with_reducible first|exact HB.out|apply bA|apply bN|apply bD|refine bS ?_ (IsS64.ge HI0.out))|exact HB.out),by repeat (first|(with_reducible first|exact HK.out|apply KeepBut.set_|apply keep_drewN|apply keep_drew|apply keep_alloc)|exact HK.out)⟩

end Go.Proofs.YtanjbdgmnecacaaDoor.PT
