-- Written by a program of this session (wip/print/myprint.py) over the kit's print, with contracts of its own; not a text of print.sh's.
import Derived.Test.YtanjbdgmnecacaaPRx0
import Derived.Test.YtanjbdgmnecacaaPRx4
import Derived.Test.YtanjbdgmnecacaaPRx5
namespace Go.Proofs.Ytanjbdgmnecacaa.PR
open Go.RowKit Go.Proofs.YtanjbdgmnecacaaW.PrintWords Go.Proofs.YtanjbdgmnecacaaW.PrintLast Go.Proofs.YtanjbdgmnecacaaW.PrintMore
attribute [local go_sem] max2_int min2_int max_two min_two   -- for this text's walks alone
set_option linter.unusedVariables false
set_option linter.unusedSimpArgs false

/-- A state of type 72 at block g of W; what its slices lead to came in by w0. -/
def IsS72 (w0 W : World) (g : Nat) (f0 : List (S39)) (f1 : List (S45)) (f2 : Int) (f3 : Int) (f4 : Int) (f5 : Int) (f6 : Int) (f7 : Int) (f8 : List Int) : Prop:=∃ A0 c0,∃ A1 c1,∃ A8 c8,W.heap[g]? = some (.cells #[.slice A0 f0.length c0,.slice A1 f1.length c1,.int .i64 f2,.int .i64 f3,.int .i64 f4,.int .i64 f5,.int .i64 f6,.int .i64 f7,.slice A8 f8.length c8] 72 (0,0))∧w0.heap.size ≤ g∧(Kd.C k39 w0 A0 f0.length f0∧f0.length ≤ c0)∧(Kd.C k45 w0 A1 f1.length f1∧f1.length ≤ c1)∧(Kd.C (Kd.int .i64) w0 A8 f8.length f8∧f8.length ≤ c8)
theorem IsS72.grown {w0 W : World} {g : Nat} {f0 : List (S39)} {f1 : List (S45)} {f2 : Int} {f3 : Int} {f4 : Int} {f5 : Int} {f6 : Int} {f7 : Int} {f8 : List Int} {W1 : World} {row : Option Nat} (h : IsS72 w0 W g f0 f1 f2 f3 f4 f5 f6 f7 f8) (hw : W.grownBy W1 row) (hne : some g ≠ row) : IsS72 w0 W1 g f0 f1 f2 f3 f4 f5 f6 f7 f8:=by
 obtain ⟨A0,c0,A1,c1,A8,c8,hb,hg,hr0,hr1,hr8⟩:=h;exact ⟨A0,c0,A1,c1,A8,c8,blk_grown hb hw hne,hg,hr0,hr1,hr8⟩
theorem IsS72.below {w0 W : World} {g : Nat} {f0 : List (S39)} {f1 : List (S45)} {f2 : Int} {f3 : Int} {f4 : Int} {f5 : Int} {f6 : Int} {f7 : Int} {f8 : List Int} {W1 : World} (h : IsS72 w0 W g f0 f1 f2 f3 f4 f5 f6 f7 f8) (hw : Below W.heap.size W W1) : IsS72 w0 W1 g f0 f1 f2 f3 f4 f5 f6 f7 f8:=h.grown (grown_of_below hw none) (by simp)
theorem IsS72.alloc {w0 W : World} {g : Nat} {f0 : List (S39)} {f1 : List (S45)} {f2 : Int} {f3 : Int} {f4 : Int} {f5 : Int} {f6 : Int} {f7 : Int} {f8 : List Int} (h : IsS72 w0 W g f0 f1 f2 f3 f4 f5 f6 f7 f8) (o : Obj) : IsS72 w0 (W.alloc o) g f0 f1 f2 f3 f4 f5 f6 f7 f8:=h.below (bA (Below.refl _ _) o)
theorem IsS72.drewN {w0 W : World} {g : Nat} {f0 : List (S39)} {f1 : List (S45)} {f2 : Int} {f3 : Int} {f4 : Int} {f5 : Int} {f6 : Int} {f7 : Int} {f8 : List Int} (h : IsS72 w0 W g f0 f1 f2 f3 f4 f5 f6 f7 f8) (m : Nat) : IsS72 w0 (W.drewN m) g f0 f1 f2 f3 f4 f5 f6 f7 f8:=h
theorem IsS72.drew {w0 W : World} {g : Nat} {f0 : List (S39)} {f1 : List (S45)} {f2 : Int} {f3 : Int} {f4 : Int} {f5 : Int} {f6 : Int} {f7 : Int} {f8 : List Int} (h : IsS72 w0 W g f0 f1 f2 f3 f4 f5 f6 f7 f8) : IsS72 w0 W.drew g f0 f1 f2 f3 f4 f5 f6 f7 f8:=h
theorem IsS72.ge {w0 W : World} {g : Nat} {f0 : List (S39)} {f1 : List (S45)} {f2 : Int} {f3 : Int} {f4 : Int} {f5 : Int} {f6 : Int} {f7 : Int} {f8 : List Int} (h : IsS72 w0 W g f0 f1 f2 f3 f4 f5 f6 f7 f8) : w0.heap.size ≤ g:=by
 obtain ⟨A0,c0,A1,c1,A8,c8,hb,hg,hr0,hr1,hr8⟩:=h;exact hg
theorem cellS72_0 {W : World} {g : Nat} {A0 : Option Addr} {c0 : Nat} {A1 : Option Addr} {c1 : Nat} {A8 : Option Addr} {c8 : Nat} {f0 : List (S39)} {f1 : List (S45)} {f2 : Int} {f3 : Int} {f4 : Int} {f5 : Int} {f6 : Int} {f7 : Int} {f8 : List Int} (h : W.heap[g]? = some (.cells #[.slice A0 f0.length c0,.slice A1 f1.length c1,.int .i64 f2,.int .i64 f3,.int .i64 f4,.int .i64 f5,.int .i64 f6,.int .i64 f7,.slice A8 f8.length c8] 72 (0,0))) : W.cell? ⟨g,0,none⟩ = some (.slice A0 f0.length c0):=(kC h 0).trans rfl
theorem cellS72_1 {W : World} {g : Nat} {A0 : Option Addr} {c0 : Nat} {A1 : Option Addr} {c1 : Nat} {A8 : Option Addr} {c8 : Nat} {f0 : List (S39)} {f1 : List (S45)} {f2 : Int} {f3 : Int} {f4 : Int} {f5 : Int} {f6 : Int} {f7 : Int} {f8 : List Int} (h : W.heap[g]? = some (.cells #[.slice A0 f0.length c0,.slice A1 f1.length c1,.int .i64 f2,.int .i64 f3,.int .i64 f4,.int .i64 f5,.int .i64 f6,.int .i64 f7,.slice A8 f8.length c8] 72 (0,0))) : W.cell? ⟨g,1,none⟩ = some (.slice A1 f1.length c1):=(kC h 1).trans rfl
theorem cellS72_2 {W : World} {g : Nat} {A0 : Option Addr} {c0 : Nat} {A1 : Option Addr} {c1 : Nat} {A8 : Option Addr} {c8 : Nat} {f0 : List (S39)} {f1 : List (S45)} {f2 : Int} {f3 : Int} {f4 : Int} {f5 : Int} {f6 : Int} {f7 : Int} {f8 : List Int} (h : W.heap[g]? = some (.cells #[.slice A0 f0.length c0,.slice A1 f1.length c1,.int .i64 f2,.int .i64 f3,.int .i64 f4,.int .i64 f5,.int .i64 f6,.int .i64 f7,.slice A8 f8.length c8] 72 (0,0))) : W.cell? ⟨g,2,none⟩ = some (.int .i64 f2):=(kC h 2).trans rfl
theorem IsS72.set_2 {w0 W : World} {g : Nat} {f0 : List (S39)} {f1 : List (S45)} {f2 : Int} {f3 : Int} {f4 : Int} {f5 : Int} {f6 : Int} {f7 : Int} {f8 : List Int} (h : IsS72 w0 W g f0 f1 f2 f3 f4 f5 f6 f7 f8) (x : Int) : IsS72 w0 (W.setCell ⟨g,2,none⟩ (.int .i64 x)) g f0 f1 x f3 f4 f5 f6 f7 f8:=by
 obtain ⟨A0,c0,A1,c1,A8,c8,hb,hg,hr0,hr1,hr8⟩:=h;exact ⟨A0,c0,A1,c1,A8,c8,by simpa using blk_set hb 2 (.int .i64 x),hg,hr0,hr1,hr8⟩
theorem cellS72_3 {W : World} {g : Nat} {A0 : Option Addr} {c0 : Nat} {A1 : Option Addr} {c1 : Nat} {A8 : Option Addr} {c8 : Nat} {f0 : List (S39)} {f1 : List (S45)} {f2 : Int} {f3 : Int} {f4 : Int} {f5 : Int} {f6 : Int} {f7 : Int} {f8 : List Int} (h : W.heap[g]? = some (.cells #[.slice A0 f0.length c0,.slice A1 f1.length c1,.int .i64 f2,.int .i64 f3,.int .i64 f4,.int .i64 f5,.int .i64 f6,.int .i64 f7,.slice A8 f8.length c8] 72 (0,0))) : W.cell? ⟨g,3,none⟩ = some (.int .i64 f3):=(kC h 3).trans rfl
theorem IsS72.set_3 {w0 W : World} {g : Nat} {f0 : List (S39)} {f1 : List (S45)} {f2 : Int} {f3 : Int} {f4 : Int} {f5 : Int} {f6 : Int} {f7 : Int} {f8 : List Int} (h : IsS72 w0 W g f0 f1 f2 f3 f4 f5 f6 f7 f8) (x : Int) : IsS72 w0 (W.setCell ⟨g,3,none⟩ (.int .i64 x)) g f0 f1 f2 x f4 f5 f6 f7 f8:=by
 obtain ⟨A0,c0,A1,c1,A8,c8,hb,hg,hr0,hr1,hr8⟩:=h;exact ⟨A0,c0,A1,c1,A8,c8,by simpa using blk_set hb 3 (.int .i64 x),hg,hr0,hr1,hr8⟩
theorem cellS72_4 {W : World} {g : Nat} {A0 : Option Addr} {c0 : Nat} {A1 : Option Addr} {c1 : Nat} {A8 : Option Addr} {c8 : Nat} {f0 : List (S39)} {f1 : List (S45)} {f2 : Int} {f3 : Int} {f4 : Int} {f5 : Int} {f6 : Int} {f7 : Int} {f8 : List Int} (h : W.heap[g]? = some (.cells #[.slice A0 f0.length c0,.slice A1 f1.length c1,.int .i64 f2,.int .i64 f3,.int .i64 f4,.int .i64 f5,.int .i64 f6,.int .i64 f7,.slice A8 f8.length c8] 72 (0,0))) : W.cell? ⟨g,4,none⟩ = some (.int .i64 f4):=(kC h 4).trans rfl
theorem IsS72.set_4 {w0 W : World} {g : Nat} {f0 : List (S39)} {f1 : List (S45)} {f2 : Int} {f3 : Int} {f4 : Int} {f5 : Int} {f6 : Int} {f7 : Int} {f8 : List Int} (h : IsS72 w0 W g f0 f1 f2 f3 f4 f5 f6 f7 f8) (x : Int) : IsS72 w0 (W.setCell ⟨g,4,none⟩ (.int .i64 x)) g f0 f1 f2 f3 x f5 f6 f7 f8:=by
 obtain ⟨A0,c0,A1,c1,A8,c8,hb,hg,hr0,hr1,hr8⟩:=h;exact ⟨A0,c0,A1,c1,A8,c8,by simpa using blk_set hb 4 (.int .i64 x),hg,hr0,hr1,hr8⟩
theorem cellS72_5 {W : World} {g : Nat} {A0 : Option Addr} {c0 : Nat} {A1 : Option Addr} {c1 : Nat} {A8 : Option Addr} {c8 : Nat} {f0 : List (S39)} {f1 : List (S45)} {f2 : Int} {f3 : Int} {f4 : Int} {f5 : Int} {f6 : Int} {f7 : Int} {f8 : List Int} (h : W.heap[g]? = some (.cells #[.slice A0 f0.length c0,.slice A1 f1.length c1,.int .i64 f2,.int .i64 f3,.int .i64 f4,.int .i64 f5,.int .i64 f6,.int .i64 f7,.slice A8 f8.length c8] 72 (0,0))) : W.cell? ⟨g,5,none⟩ = some (.int .i64 f5):=(kC h 5).trans rfl
theorem IsS72.set_5 {w0 W : World} {g : Nat} {f0 : List (S39)} {f1 : List (S45)} {f2 : Int} {f3 : Int} {f4 : Int} {f5 : Int} {f6 : Int} {f7 : Int} {f8 : List Int} (h : IsS72 w0 W g f0 f1 f2 f3 f4 f5 f6 f7 f8) (x : Int) : IsS72 w0 (W.setCell ⟨g,5,none⟩ (.int .i64 x)) g f0 f1 f2 f3 f4 x f6 f7 f8:=by
 obtain ⟨A0,c0,A1,c1,A8,c8,hb,hg,hr0,hr1,hr8⟩:=h;exact ⟨A0,c0,A1,c1,A8,c8,by simpa using blk_set hb 5 (.int .i64 x),hg,hr0,hr1,hr8⟩
theorem cellS72_6 {W : World} {g : Nat} {A0 : Option Addr} {c0 : Nat} {A1 : Option Addr} {c1 : Nat} {A8 : Option Addr} {c8 : Nat} {f0 : List (S39)} {f1 : List (S45)} {f2 : Int} {f3 : Int} {f4 : Int} {f5 : Int} {f6 : Int} {f7 : Int} {f8 : List Int} (h : W.heap[g]? = some (.cells #[.slice A0 f0.length c0,.slice A1 f1.length c1,.int .i64 f2,.int .i64 f3,.int .i64 f4,.int .i64 f5,.int .i64 f6,.int .i64 f7,.slice A8 f8.length c8] 72 (0,0))) : W.cell? ⟨g,6,none⟩ = some (.int .i64 f6):=(kC h 6).trans rfl
theorem IsS72.set_6 {w0 W : World} {g : Nat} {f0 : List (S39)} {f1 : List (S45)} {f2 : Int} {f3 : Int} {f4 : Int} {f5 : Int} {f6 : Int} {f7 : Int} {f8 : List Int} (h : IsS72 w0 W g f0 f1 f2 f3 f4 f5 f6 f7 f8) (x : Int) : IsS72 w0 (W.setCell ⟨g,6,none⟩ (.int .i64 x)) g f0 f1 f2 f3 f4 f5 x f7 f8:=by
 obtain ⟨A0,c0,A1,c1,A8,c8,hb,hg,hr0,hr1,hr8⟩:=h;exact ⟨A0,c0,A1,c1,A8,c8,by simpa using blk_set hb 6 (.int .i64 x),hg,hr0,hr1,hr8⟩
theorem cellS72_7 {W : World} {g : Nat} {A0 : Option Addr} {c0 : Nat} {A1 : Option Addr} {c1 : Nat} {A8 : Option Addr} {c8 : Nat} {f0 : List (S39)} {f1 : List (S45)} {f2 : Int} {f3 : Int} {f4 : Int} {f5 : Int} {f6 : Int} {f7 : Int} {f8 : List Int} (h : W.heap[g]? = some (.cells #[.slice A0 f0.length c0,.slice A1 f1.length c1,.int .i64 f2,.int .i64 f3,.int .i64 f4,.int .i64 f5,.int .i64 f6,.int .i64 f7,.slice A8 f8.length c8] 72 (0,0))) : W.cell? ⟨g,7,none⟩ = some (.int .i64 f7):=(kC h 7).trans rfl
theorem IsS72.set_7 {w0 W : World} {g : Nat} {f0 : List (S39)} {f1 : List (S45)} {f2 : Int} {f3 : Int} {f4 : Int} {f5 : Int} {f6 : Int} {f7 : Int} {f8 : List Int} (h : IsS72 w0 W g f0 f1 f2 f3 f4 f5 f6 f7 f8) (x : Int) : IsS72 w0 (W.setCell ⟨g,7,none⟩ (.int .i64 x)) g f0 f1 f2 f3 f4 f5 f6 x f8:=by
 obtain ⟨A0,c0,A1,c1,A8,c8,hb,hg,hr0,hr1,hr8⟩:=h;exact ⟨A0,c0,A1,c1,A8,c8,by simpa using blk_set hb 7 (.int .i64 x),hg,hr0,hr1,hr8⟩
theorem cellS72_8 {W : World} {g : Nat} {A0 : Option Addr} {c0 : Nat} {A1 : Option Addr} {c1 : Nat} {A8 : Option Addr} {c8 : Nat} {f0 : List (S39)} {f1 : List (S45)} {f2 : Int} {f3 : Int} {f4 : Int} {f5 : Int} {f6 : Int} {f7 : Int} {f8 : List Int} (h : W.heap[g]? = some (.cells #[.slice A0 f0.length c0,.slice A1 f1.length c1,.int .i64 f2,.int .i64 f3,.int .i64 f4,.int .i64 f5,.int .i64 f6,.int .i64 f7,.slice A8 f8.length c8] 72 (0,0))) : W.cell? ⟨g,8,none⟩ = some (.slice A8 f8.length c8):=(kC h 8).trans rfl

/-! ### spec_l4G_low: function 45 -/
def spec_l4G_low.f (k : Nat) (s0_0 : List (S39)) (s0_1 : List (S45)) (s0_2 : Int) (s0_3 : Int) (s0_4 : Int) (s0_5 : Int) (s0_6 : Int) (s0_7 : Int) (s0_8 : List Int) (a1 : Int) (a2 : Int) : Option (Int × Int × Int × Int × Int × Int × Int):=(spec_l2rate.f k s0_0 s0_1 s0_2 s0_3 s0_4 (wrap64 (s0_6 + a1))).bind fun t134 => ((spec_l2less.f a2 t134).bind fun t135 => (some (t135,s0_2,s0_3,s0_4,s0_5,s0_6,s0_7)))
theorem spec_l4G_low.mono : ∀ a0 a1 a2 a3 a4 a5 a6 a7 a8 a9 a10 k,LeO (spec_l4G_low.f k a0 a1 a2 a3 a4 a5 a6 a7 a8 a9 a10) (spec_l4G_low.f (k + 1) a0 a1 a2 a3 a4 a5 a6 a7 a8 a9 a10):=by
 intro a0 a1 a2 a3 a4 a5 a6 a7 a8 a9 a10 k;unfold spec_l4G_low.f
 repeat' first
   | (with_reducible exact spec_l2rate.mono _ _ _ _ _ _ _)
   | (with_reducible exact LeO.refl _)
   | (with_reducible exact LeO.none _)
   | (with_reducible refine LeO.ite ?_ ?_)
   | (with_reducible refine LeO.bind ?_ (fun _ => ?_))
   | exact spec_l2rate.mono _ _ _ _ _ _ _
   | exact LeO.none _
   | refine LeO.ite ?_ ?_
   | refine LeO.bind ?_ (fun _ => ?_)
def spec_l4G_low.T1 : Bool × List (List Nat × List Nat):=(true,[([],[]),([],[]),([1],[1]),([2],[2]),([3],[3]),([],[]),([5],[5]),([6],[6]),([7],[7]),([],[]),([8,9],[8,9]),([4,10],[4,10]),([0,11,11],[0,11]),([12,12,0,1,2,3,4,5,6,7,8,9,10,11,12],[12])])
def spec_l4G_low.B1 : List Nat:=[0,0,2,6,14,0,32,96,224,0,992,2046,4095,8191]
theorem spec_l4G_low.tab1 : rtab .any (opsOf Try.f45 1) = spec_l4G_low.T1:=by kernel_rfl
theorem spec_l4G_low.bits1 : waitsOk spec_l4G_low.T1.2 spec_l4G_low.B1 = true:=by kernel_rfl
set_option maxHeartbeats 8000000 in
set_option maxRecDepth 100000 in
theorem spec_l4G_low.calls (k : Nat) (g : Nat) (s0_0 : List (S39)) (s0_1 : List (S45)) (s0_2 : Int) (s0_3 : Int) (s0_4 : Int) (s0_5 : Int) (s0_6 : Int) (s0_7 : Int) (s0_8 : List Int) (a1 : Int) (a2 : Int) (r1 : Int) (r2 : Int) (r3 : Int) (r4 : Int) (r5 : Int) (r6 : Int) (r7 : Int) (w0 w : World) (hI : IsS72 w0 w g s0_0 s0_1 s0_2 s0_3 s0_4 s0_5 s0_6 s0_7 s0_8) (hB : Below w0.heap.size w0 w) (h : spec_l4G_low.f k s0_0 s0_1 s0_2 s0_3 s0_4 s0_5 s0_6 s0_7 s0_8 a1 a2 = some (r1,r2,r3,r4,r5,r6,r7)) :
  Calls Try.prog 45 #[.pointer (some ⟨g,0,none⟩),.int .i64 a1,.int .i64 a2] w fun e w' => e = .returned (.int .i64 r1)∧IsS72 w0 w' g s0_0 s0_1 r2 r3 r4 r5 r6 r7 s0_8∧Below w0.heap.size w0 w'∧KeepBut w w' g none:=by
 have hu26:=Try.underlying26;have HI0:=Am hI;have HK:=Am (KeepBut.refl w g none);have HL:=Am hB.size;clear hI;have HW0:=Am hB.size;have HB:=Am hB;clear hB;have H : ((spec_l2rate.f k s0_0 s0_1 s0_2 s0_3 s0_4 (wrap64 (s0_6 + a1))).bind fun t134 => ((spec_l2less.f a2 t134).bind fun t135 => (some (t135,s0_2,s0_3,s0_4,s0_5,s0_6,s0_7)))) = some (r1,r2,r3,r4,r5,r6,r7):=h;clear h;replace H:=Option.bind_eq_some_iff.mp H;obtain ⟨t134,A40,H⟩:=H;replace H : ((spec_l2less.f a2 t134).bind fun t135 => (some (t135,s0_2,s0_3,s0_4,s0_5,s0_6,s0_7))) = some (r1,r2,r3,r4,r5,r6,r7):=H;have A4:=Am A40;clear A40;replace H:=Option.bind_eq_some_iff.mp H;obtain ⟨t135,A50,H⟩:=H;replace H : (some (t135,s0_2,s0_3,s0_4,s0_5,s0_6,s0_7)) = some (r1,r2,r3,r4,r5,r6,r7):=H;have A5:=Am A50;clear A50;simp only [Option.some.injEq,Prod.mk.injEq] at H;obtain ⟨rfl,rfl,rfl,rfl,rfl,rfl,rfl⟩:=H
 obtain ⟨ASz6_0,cSz6_0,ASz6_1,cSz6_1,ASz6_8,cSz6_8,HGz6,hgz6,HSz6_0,HSz6_1,HSz6_8⟩:=(show IsS72 w0 _ g s0_0 s0_1 s0_2 s0_3 s0_4 s0_5 s0_6 s0_7 s0_8 from by repeat (first|(with_reducible first|exact HI0.out|apply IsS72.alloc|apply IsS72.drewN|apply IsS72.drew|apply IsS72.set_2|apply IsS72.set_3|apply IsS72.set_4|apply IsS72.set_5|apply IsS72.set_6|apply IsS72.set_7)|exact HI0.out))
 have BK0:=Am HGz6;have GE0:=Am hgz6;have HTz6_0:=Am HSz6_0;have HTz6_1:=Am HSz6_1;have HTz6_8:=Am HSz6_8;clear HGz6 hgz6 HSz6_0 HSz6_1 HSz6_8;clear HI0
 go_enter Try.func45,Try.ntmps45
 try go_wp2
 have n0_:=Am (kD BK0.out);have n1_:=Am (keep_drew HK.out);have n2_:=Am (bD HB.out);clear BK0;clear HK;clear HB;have BK0:=n0_;have HK:=n1_;have HB:=n2_;clear n0_ n1_ n2_;refine start_ (n:=14) (S:=fun w' => w'.cell? ⟨g,0,none⟩ = some (.slice ASz6_0 s0_0.length cSz6_0)∧w'.cell? ⟨g,1,none⟩ = some (.slice ASz6_1 s0_1.length cSz6_1)∧w'.cell? ⟨g,2,none⟩ = some (.int .i64 s0_2)∧w'.cell? ⟨g,3,none⟩ = some (.int .i64 s0_3)∧w'.cell? ⟨g,4,none⟩ = some (.int .i64 s0_4)∧w'.cell? ⟨g,5,none⟩ = some (.int .i64 s0_5)∧w'.cell? ⟨g,6,none⟩ = some (.int .i64 s0_6)∧w'.cell? ⟨g,7,none⟩ = some (.int .i64 s0_7)∧w'.cell? ⟨g,8,none⟩ = some (.slice ASz6_8 s0_8.length cSz6_8)) (ds:=[]) #[false,false,false,false,false,false,false,false,false,false,false,false,false,false] (by kernel_rfl) rfl rfl ⟨(kC BK0.out 0).trans rfl,(kC BK0.out 1).trans rfl,(kC BK0.out 2).trans rfl,(kC BK0.out 3).trans rfl,(kC BK0.out 4).trans rfl,(kC BK0.out 5).trans rfl,(kC BK0.out 6).trans rfl,(kC BK0.out 7).trans rfl,(kC BK0.out 8).trans rfl⟩ (fun hHeld => ?_);refine with_tabW spec_l4G_low.tab1 spec_l4G_low.bits1 (fun HT_ HW_ => ?_);generalize w.drew = w7 at BK0 HK HB hHeld ⊢;refine pure_ (i:=0) (N:=some 7) (v:=?_) (a':=?_) #[true,false,false,false,false,false,false,false,false,false,false,false,false,false] rfl rfl (any_of HT_.out (by kernel_rfl)) (fun _ _ _ h => h) (Or.inl ⟨by rfl,?_⟩) ?_ ?_;rotate_left
 ·intro w'
  go_simp
  with_reducible rfl
 rotate_left
 ·simp only [Act.put,pS]
  rfl
 refine pure_ (i:=1) (N:=some 8) (v:=?_) (a':=?_) #[true,true,false,false,false,false,false,false,false,false,false,false,false,false] rfl rfl (any_of HT_.out (by kernel_rfl)) (fun _ _ _ h => h) (Or.inl ⟨by rfl,?_⟩) ?_ ?_;rotate_left
 ·intro w'
  go_simp
  with_reducible rfl
 rotate_left
 ·simp only [Act.put,pS]
  rfl
 refine pure_ (i:=2) (N:=some 9) (v:=?_) (a':=?_) #[true,true,true,false,false,false,false,false,false,false,false,false,false,false] rfl rfl (any_of HT_.out (by kernel_rfl)) (fun _ _ _ h => h) (Or.inl ⟨by rfl,?_⟩) ?_ ?_;rotate_left
 ·intro w'
  go_simp
  with_reducible rfl
 rotate_left
 ·simp only [Act.put,pS]
  rfl
 refine pure_ (i:=3) (N:=some 10) (v:=?_) (a':=?_) #[true,true,true,true,false,false,false,false,false,false,false,false,false,false] rfl rfl (any_of HT_.out (by kernel_rfl)) (fun _ _ _ h => h) (Or.inl ⟨by rfl,?_⟩) ?_ ?_;rotate_left
 ·intro w'
  go_simp
  with_reducible rfl
 rotate_left
 ·simp only [Act.put,pS]
  rfl
 refine pure_ (i:=5) (N:=some 12) (v:=?_) (a':=?_) #[true,true,true,true,false,true,false,false,false,false,false,false,false,false] rfl rfl (any_of HT_.out (by kernel_rfl)) (fun _ _ _ h => h) (Or.inl ⟨by rfl,?_⟩) ?_ ?_;rotate_left
 ·intro w'
  go_simp
  with_reducible rfl
 rotate_left
 ·simp only [Act.put,pS]
  rfl
 refine pure_ (i:=6) (N:=some 13) (v:=?_) (a':=?_) #[true,true,true,true,false,true,true,false,false,false,false,false,false,false] rfl rfl (any_of HT_.out (by kernel_rfl)) (fun _ _ _ h => h) (Or.inl ⟨by rfl,?_⟩) ?_ ?_;rotate_left
 ·intro w'
  go_simp
  with_reducible rfl
 rotate_left
 ·simp only [Act.put,pS]
  rfl
 refine pure_ (i:=7) (N:=some 14) (v:=?_) (a':=?_) #[true,true,true,true,false,true,true,true,false,false,false,false,false,false] rfl rfl (any_of HT_.out (by kernel_rfl)) (fun _ _ _ h => h) (Or.inl ⟨by rfl,?_⟩) ?_ ?_;rotate_left
 ·intro w'
  go_simp
  with_reducible rfl
 rotate_left
 ·simp only [Act.put,pS]
  rfl
 refine pure_ (i:=9) (N:=some 16) (v:=?_) (a':=?_) #[true,true,true,true,false,true,true,true,false,true,false,false,false,false] rfl rfl (any_of HT_.out (by kernel_rfl)) (fun _ _ _ h => h) (Or.inl ⟨by rfl,?_⟩) ?_ ?_;rotate_left
 ·intro w'
  go_simp
  with_reducible rfl
 rotate_left
 ·simp only [Act.put,pS]
  rfl
 refine take_ (i:=4) (N:=some 11) (v:=?_) (a':=?_) #[true,true,true,true,true,true,true,true,false,true,false,false,false,false] rfl rfl (take_ofW HT_.out HW_.out (by kernel_rfl)) (fun _ _ _ h => h) (Or.inl ⟨by rfl,?_⟩) hHeld ?_ ?_;rotate_left
 ·rintro w' ⟨s0,s1,s2,s3,s4,s5,s6,s7,s8⟩
  go_simp
  with_reducible rfl
 rotate_left
 ·simp only [Act.put,pS]
  rfl
 refine take_ (i:=8) (N:=some 15) (v:=?_) (a':=?_) #[true,true,true,true,true,true,true,true,true,true,false,false,false,false] rfl rfl (take_ofW HT_.out HW_.out (by kernel_rfl)) (fun _ _ _ h => h) (Or.inl ⟨by rfl,?_⟩) hHeld ?_ ?_;rotate_left
 ·rintro w' ⟨s0,s1,s2,s3,s4,s5,s6,s7,s8⟩
  go_simp
  with_reducible rfl
 rotate_left
 ·simp only [Act.put,pS]
  rfl
 refine pure_ (i:=10) (N:=some 17) (v:=?_) (a':=?_) #[true,true,true,true,true,true,true,true,true,true,true,false,false,false] rfl rfl (any_of HT_.out (by kernel_rfl)) (fun _ _ _ h => h) (Or.inl ⟨by rfl,?_⟩) ?_ ?_;rotate_left
 ·intro w'
  go_simp
  with_reducible rfl
 rotate_left
 ·simp only [Act.put,pS]
  rfl
 refine one_ (i:=11) (N:=some 18) #[true,true,true,true,true,true,true,true,true,true,true,true,false,false] rfl rfl (one_of HT_.out (by kernel_rfl)) (by decide) (fun K hK => ?_);refine goes_ Try.func40 (by kernel_rfl) rfl #[.agg #[.slice ASz6_0 s0_0.length cSz6_0,.slice ASz6_1 s0_1.length cSz6_1,.int .i64 s0_2,.int .i64 s0_3,.int .i64 s0_4],.int .i64 (wrap64 (s0_6 + a1))] (by rfl) rfl rfl lA ?_
 with_reducible refine (spec_l2rate.calls k _ _ s0_0 _ _ s0_1 s0_2 s0_3 s0_4 (wrap64 (s0_6 + a1)) t134 _ ?side1 ?side2 ?side3 ?side4 A4.out).mono ?_
 (case side1 => exact (Kd.C_below HTz6_0.out.1 HB.out))
 (case side2 => exact HTz6_0.out.2)
 (case side3 => exact (Kd.C_below HTz6_1.out.1 HB.out))
 (case side4 => exact HTz6_1.out.2)
 rintro e w8 ⟨rfl,hb⟩;refine ⟨_,rfl,?_⟩;have n0_:=Am (blk_below (g:=g) (o:=.cells #[.slice ASz6_0 s0_0.length cSz6_0,.slice ASz6_1 s0_1.length cSz6_1,.int .i64 s0_2,.int .i64 s0_3,.int .i64 s0_4,.int .i64 s0_5,.int .i64 s0_6,.int .i64 s0_7,.slice ASz6_8 s0_8.length cSz6_8] 72 (0,0)) (kL BK0) hb);have n1_:=Am (KeepBut.trans (by repeat (first|(with_reducible first|exact HK.out|apply KeepBut.set_|apply keep_drewN|apply keep_drew|apply keep_alloc|refine keep_far ?_ GW0.out _)|exact HK.out)) (KeepBut.of_below hb g none) (.inl rfl));have n2_:=Am (below_step (bL HB) hb);clear BK0;clear HK;clear HB;have BK0:=n0_;have HK:=n1_;have HB:=n2_;clear n0_ n1_ n2_;(try clear hb);(try clear hb2);(try clear hk);(try clear hi);refine hK.out _ _ ⟨(kC BK0.out 0).trans rfl,(kC BK0.out 1).trans rfl,(kC BK0.out 2).trans rfl,(kC BK0.out 3).trans rfl,(kC BK0.out 4).trans rfl,(kC BK0.out 5).trans rfl,(kC BK0.out 6).trans rfl,(kC BK0.out 7).trans rfl,(kC BK0.out 8).trans rfl⟩ (fun hHeld => ?_);clear hK K;refine norm_ (a':=?_) ?_ ?_;rotate_left
 ·show Act.put _ (some 18) _ = _
  simp only [Act.put,pS]
  rfl
 refine one_ (i:=12) (N:=some 19) #[true,true,true,true,true,true,true,true,true,true,true,true,true,false] rfl rfl (one_of HT_.out (by kernel_rfl)) (by decide) (fun K hK => ?_);refine goes_ Try.func39 (by kernel_rfl) rfl #[.int .i64 a2,.int .i64 t134] (by rfl) rfl rfl lA ?_
 with_reducible refine (spec_l2less.calls a2 t134 t135 _ A5.out).mono ?_
 rintro e w' ⟨rfl,⟨nd,rfl⟩⟩;refine ⟨_,rfl,?_⟩;refine hK.out _ _ ⟨(kC BK0.out 0).trans rfl,(kC BK0.out 1).trans rfl,(kC BK0.out 2).trans rfl,(kC BK0.out 3).trans rfl,(kC BK0.out 4).trans rfl,(kC BK0.out 5).trans rfl,(kC BK0.out 6).trans rfl,(kC BK0.out 7).trans rfl,(kC BK0.out 8).trans rfl⟩ (fun hHeld => ?_);clear hK K;refine norm_ (a':=?_) ?_ ?_;rotate_left
 ·show Act.put _ (some 19) _ = _
  simp only [Act.put,pS]
  rfl
 refine pure_ (i:=13) (N:=some 6) (v:=?_) (a':=?_) #[true,true,true,true,true,true,true,true,true,true,true,true,true,true] rfl rfl (any_of HT_.out (by kernel_rfl)) (fun _ _ _ h => h) (Or.inl ⟨by rfl,?_⟩) ?_ ?_;rotate_left
 ·intro w'
  go_simp
  with_reducible rfl
 rotate_left
 ·simp only [Act.put,pS]
  rfl
 refine done_ (done_of HT_.out (by kernel_rfl)) ?_
 try go_wp2
 go_ret;exact ⟨by first|rfl|(simp [errW_none,errW_some] <;> rfl)|(simp [*,errW_none,errW_some] <;> rfl),by exact ⟨_,_,_,_,_,_,by (with_reducible repeat (first|refine kN ?_ _|refine kD ?_|refine kA ?_ _));exact BK0.out,GE0.out,HTz6_0.out,HTz6_1.out,HTz6_8.out⟩,by repeat (first|(with_reducible first|exact HB.out|apply bA|apply bN|apply bD|refine bS ?_ GE0.out)|exact HB.out),by repeat (first|(with_reducible first|exact HK.out|apply KeepBut.set_|apply keep_drewN|apply keep_drew|apply keep_alloc)|exact HK.out)⟩

end Go.Proofs.Ytanjbdgmnecacaa.PR
