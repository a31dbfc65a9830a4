-- Written by a program of this session (wip/print/myprint.py) over the kit's print, with contracts of its own; not a text of print.sh's.
import Derived.Test.YtanjbdgmnecacaaDoorPTx0
namespace Go.Proofs.YtanjbdgmnecacaaDoor.PT
open Go.RowKit Go.Proofs.YtanjbdgmnecacaaDoorW.PrintWords Go.Proofs.YtanjbdgmnecacaaDoorW.PrintLast Go.Proofs.YtanjbdgmnecacaaDoorW.PrintMore
attribute [local go_sem] max2_int min2_int max_two min_two   -- for this text's walks alone
set_option linter.unusedVariables false
set_option linter.unusedSimpArgs false

/-- A state of type 40 at block g of W; what its slices lead to came in by w0. -/
def IsS40 (w0 W : World) (g : Nat) (f0 : List Int) (f1 : Int) (f2 : Int) : Prop:=∃ A0 c0,W.heap[g]? = some (.cells #[.slice A0 f0.length c0,.int .i64 f1,.int .u64 f2] 40 (0,0))∧w0.heap.size ≤ g∧(Kd.C (Kd.int .u8) w0 A0 f0.length f0∧f0.length ≤ c0)
theorem IsS40.grown {w0 W : World} {g : Nat} {f0 : List Int} {f1 : Int} {f2 : Int} {W1 : World} {row : Option Nat} (h : IsS40 w0 W g f0 f1 f2) (hw : W.grownBy W1 row) (hne : some g ≠ row) : IsS40 w0 W1 g f0 f1 f2:=by
 obtain ⟨A0,c0,hb,hg,hr0⟩:=h;exact ⟨A0,c0,blk_grown hb hw hne,hg,hr0⟩
theorem IsS40.below {w0 W : World} {g : Nat} {f0 : List Int} {f1 : Int} {f2 : Int} {W1 : World} (h : IsS40 w0 W g f0 f1 f2) (hw : Below W.heap.size W W1) : IsS40 w0 W1 g f0 f1 f2:=h.grown (grown_of_below hw none) (by simp)
theorem IsS40.alloc {w0 W : World} {g : Nat} {f0 : List Int} {f1 : Int} {f2 : Int} (h : IsS40 w0 W g f0 f1 f2) (o : Obj) : IsS40 w0 (W.alloc o) g f0 f1 f2:=h.below (bA (Below.refl _ _) o)
theorem IsS40.drewN {w0 W : World} {g : Nat} {f0 : List Int} {f1 : Int} {f2 : Int} (h : IsS40 w0 W g f0 f1 f2) (m : Nat) : IsS40 w0 (W.drewN m) g f0 f1 f2:=h
theorem IsS40.drew {w0 W : World} {g : Nat} {f0 : List Int} {f1 : Int} {f2 : Int} (h : IsS40 w0 W g f0 f1 f2) : IsS40 w0 W.drew g f0 f1 f2:=h
theorem IsS40.apart {w0 W : World} {g : Nat} {f0 : List Int} {f1 : Int} {f2 : Int} {α : Type} {d : Kd α} {e : Nat} {base : Nat} {ok : Nat → Prop} {v : Value} {xs : List α} (h : IsS40 w0 W g f0 f1 f2) (ho : d.R e W base ok v xs) (ht : ∀ q,q ∈ e :: d.E → q ≠ 40) : d.R e W base (fun k => ok k∧k ≠ g) v xs:=by
 obtain ⟨A0,c0,hb,hg,hr0⟩:=h;exact Kd.R_types ho hb ht
theorem IsS40.own_ne {w0 W : World} {g : Nat} {f0 : List Int} {f1 : Int} {f2 : Int} {α : Type} {d : Kd α} {e : Nat} {base : Nat} {ok : Nat → Prop} {v : Value} {xs : List α} (h : IsS40 w0 W g f0 f1 f2) (ho : d.R e W base ok v xs) (ht : e ≠ 40) : some g ≠ v.ownBlock:=by
 obtain ⟨A0,c0,hb,hg,hr0⟩:=h;exact Kd.R_ne ho hb ht
theorem IsS40.lt {w0 W : World} {g : Nat} {f0 : List Int} {f1 : Int} {f2 : Int} (h : IsS40 w0 W g f0 f1 f2) : g < W.heap.size:=by
 obtain ⟨A0,c0,hb,hg,hr0⟩:=h;exact blk_lt hb
theorem IsS40.ge {w0 W : World} {g : Nat} {f0 : List Int} {f1 : Int} {f2 : Int} (h : IsS40 w0 W g f0 f1 f2) : w0.heap.size ≤ g:=by
 obtain ⟨A0,c0,hb,hg,hr0⟩:=h;exact hg
theorem IsS40.far {w0 W : World} {g : Nat} {f0 : List Int} {f1 : Int} {f2 : Int} {p : Addr} (h : IsS40 w0 W g f0 f1 f2) (hne : g ≠ p.block) (u : Value) : IsS40 w0 (W.setCell p u) g f0 f1 f2:=by
 obtain ⟨A0,c0,hb,hg,hr0⟩:=h;exact ⟨A0,c0,blk_far hb hne u,hg,hr0⟩
theorem cellS40_0 {W : World} {g : Nat} {A0 : Option Addr} {c0 : Nat} {f0 : List Int} {f1 : Int} {f2 : Int} (h : W.heap[g]? = some (.cells #[.slice A0 f0.length c0,.int .i64 f1,.int .u64 f2] 40 (0,0))) : W.cell? ⟨g,0,none⟩ = some (.slice A0 f0.length c0):=(kC h 0).trans rfl
theorem cellS40_1 {W : World} {g : Nat} {A0 : Option Addr} {c0 : Nat} {f0 : List Int} {f1 : Int} {f2 : Int} (h : W.heap[g]? = some (.cells #[.slice A0 f0.length c0,.int .i64 f1,.int .u64 f2] 40 (0,0))) : W.cell? ⟨g,1,none⟩ = some (.int .i64 f1):=(kC h 1).trans rfl
theorem IsS40.set_1 {w0 W : World} {g : Nat} {f0 : List Int} {f1 : Int} {f2 : Int} (h : IsS40 w0 W g f0 f1 f2) (x : Int) : IsS40 w0 (W.setCell ⟨g,1,none⟩ (.int .i64 x)) g f0 x f2:=by
 obtain ⟨A0,c0,hb,hg,hr0⟩:=h;exact ⟨A0,c0,by simpa using blk_set hb 1 (.int .i64 x),hg,hr0⟩
theorem cellS40_2 {W : World} {g : Nat} {A0 : Option Addr} {c0 : Nat} {f0 : List Int} {f1 : Int} {f2 : Int} (h : W.heap[g]? = some (.cells #[.slice A0 f0.length c0,.int .i64 f1,.int .u64 f2] 40 (0,0))) : W.cell? ⟨g,2,none⟩ = some (.int .u64 f2):=(kC h 2).trans rfl
theorem IsS40.set_2 {w0 W : World} {g : Nat} {f0 : List Int} {f1 : Int} {f2 : Int} (h : IsS40 w0 W g f0 f1 f2) (x : Int) : IsS40 w0 (W.setCell ⟨g,2,none⟩ (.int .u64 x)) g f0 f1 x:=by
 obtain ⟨A0,c0,hb,hg,hr0⟩:=h;exact ⟨A0,c0,by simpa using blk_set hb 2 (.int .u64 x),hg,hr0⟩

theorem IsS40.kp {w0 W : World} {g : Nat} {f0 : List Int} {f1 : Int} {f2 : Int} {α : Type} {d : Kd α} {e : Nat} {base : Nat} {ok : Nat → Prop} {v : Value} {xs : List α} {Wi_ W1_ w1_ : World} (h : As (IsS40 w0 Wi_ g f0 f1 f2)) (ho : As (d.R e W base ok v xs)) (hk : KeepBut W1_ w1_ g none) (ht : ∀ q,q ∈ e :: d.E → q ≠ 40 := by decide) (h1 : IsS40 w0 Wi_ g f0 f1 f2 → IsS40 w0 W g f0 f1 f2 := by intro h_; repeat (first|(with_reducible first|exact h_|apply IsS40.alloc|apply IsS40.drewN|apply IsS40.drew)|refine IsS40.far ?_ (Aside0.out (by assumption)) _)) (h2 : d.R e W base (fun k => ok k∧k ≠ g) v xs → d.R e W1_ base (fun k => ok k∧k ≠ g) v xs := by intro h_; repeat (with_reducible first|exact h_|apply Kd.R_alloc|apply Kd.R_drewN|apply Kd.R_drew)) : d.R e w1_ base ok v xs:=
 Kd.R_mono (Kd.R_keep (h2 (IsS40.apart (h1 h.out) ho.out ht)) hk (fun _ h => h.2)) (fun _ h => h.1)
/-! ### spec_l6Cur_next: function 27 -/
def spec_l6Cur_next.f (s0_0 : List Int) (s0_1 : Int) (s0_2 : Int) : Option (Int × Int × Int):=if s0_1 < (s0_0.length : Int) then (if 0 ≤ s0_1 then (some (wrap64 (rd s0_0 s0_1),wrap64 (s0_1 + 1),IntKind.u64.wrap ((IntKind.u64.wrap ((IntKind.u64.wrap (s0_2 * 6364136223846793005)) + (IntKind.u64.wrap (rd s0_0 s0_1)))) + 1442695040888963407))) else (none)) else (some (wrap64 (Go.bits .and .u64 ((IntKind.u64.wrap ((IntKind.u64.wrap (s0_2 * 6364136223846793005)) + 1442695040888963407)) / 1099511627776) 255),wrap64 (s0_1 + 1),IntKind.u64.wrap ((IntKind.u64.wrap (s0_2 * 6364136223846793005)) + 1442695040888963407)))
set_option maxHeartbeats 8000000 in
set_option maxRecDepth 100000 in
theorem spec_l6Cur_next.calls (g : Nat) (s0_0 : List Int) (s0_1 : Int) (s0_2 : Int) (r1 : Int) (r2 : Int) (r3 : Int) (w0 w : World) (hI : IsS40 w0 w g s0_0 s0_1 s0_2) (hB : Below w0.heap.size w0 w) (h : spec_l6Cur_next.f s0_0 s0_1 s0_2 = some (r1,r2,r3)) :
  Calls Tryd.prog 27 #[.pointer (some ⟨g,0,none⟩)] w fun e w' => e = .returned (.int .i64 r1)∧IsS40 w0 w' g s0_0 r2 r3∧Below w0.heap.size w0 w'∧KeepBut w w' g none:=by
 have HI0:=Am hI;have HK:=Am (KeepBut.refl w g none);have HL:=Am hB.size;clear hI;have HW0:=Am hB.size;have HB:=Am hB;clear hB;have H : (if s0_1 < (s0_0.length : Int) then (if 0 ≤ s0_1 then (some (wrap64 (rd s0_0 s0_1),wrap64 (s0_1 + 1),IntKind.u64.wrap ((IntKind.u64.wrap ((IntKind.u64.wrap (s0_2 * 6364136223846793005)) + (IntKind.u64.wrap (rd s0_0 s0_1)))) + 1442695040888963407))) else (none)) else (some (wrap64 (Go.bits .and .u64 ((IntKind.u64.wrap ((IntKind.u64.wrap (s0_2 * 6364136223846793005)) + 1442695040888963407)) / 1099511627776) 255),wrap64 (s0_1 + 1),IntKind.u64.wrap ((IntKind.u64.wrap (s0_2 * 6364136223846793005)) + 1442695040888963407)))) = some (r1,r2,r3):=h;clear h
 by_cases c2 : s0_1 < (s0_0.length : Int)
 ·rw [if_pos c2] at H;have c2b0 : decide (s0_1 < (s0_0.length : Int)) = true:=decide_eq_true c2;clear c2
  by_cases c3 : 0 ≤ s0_1
  ·rw [if_pos c3] at H;have c3b0 : decide (0 ≤ s0_1) = true:=decide_eq_true c3;clear c3;simp only [Option.some.injEq,Prod.mk.injEq] at H;obtain ⟨rfl,rfl,rfl⟩:=H;obtain ⟨ASz4_0,cSz4_0,HGz4,hgz4,HSz4_0⟩:=HI0.out;have hcz4_0:=cellS40_0 HGz4;have hcz4_1:=cellS40_1 HGz4;have hcz4_2:=cellS40_2 HGz4;have hfz4_1:=kF HGz4 1;have hfz4_2:=kF HGz4 2;clear HGz4 hgz4;have p101 : 0 ≤ (s0_1 : Int):=of_decide_eq_true (by first|(with_reducible assumption)|assumption);have q101 : s0_1 < (s0_0.length : Int):=of_decide_eq_true (by first|(with_reducible assumption)|assumption);obtain ⟨ad101,e101,hx101_0⟩:=Kd.at_int HSz4_0.1 s0_1 p101 q101;cases e101;replace hx101_0:=pw_cell_below HB.out hx101_0;replace p101:=eq_true p101;replace q101:=eq_true q101
   go_enter Tryd.func27,Tryd.ntmps27
   go_wp2
   repeat (go_quiet (fail);try go_wp2)
   go_ret;exact ⟨eL_,by repeat (first|(with_reducible first|exact HI0.out|apply IsS40.alloc|apply IsS40.drewN|apply IsS40.drew|apply IsS40.set_1|apply IsS40.set_2)|exact HI0.out),by repeat (first|(with_reducible first|exact HB.out|apply bA|apply bN|apply bD|refine bS ?_ (IsS40.ge HI0.out))|exact HB.out),by repeat (first|(with_reducible first|exact HK.out|apply KeepBut.set_|apply keep_drewN|apply keep_drew|apply keep_alloc)|exact HK.out)⟩
  ·rw [if_neg c3] at H;exact absurd H (by simp)
 ·rw [if_neg c2] at H;have c2b0 : decide (s0_1 < (s0_0.length : Int)) = false:=decide_eq_false c2;clear c2;simp only [Option.some.injEq,Prod.mk.injEq] at H;obtain ⟨rfl,rfl,rfl⟩:=H;obtain ⟨ASz5_0,cSz5_0,HGz5,hgz5,HSz5_0⟩:=HI0.out;have hcz5_0:=cellS40_0 HGz5;have hcz5_1:=cellS40_1 HGz5;have hcz5_2:=cellS40_2 HGz5;have hfz5_1:=kF HGz5 1;have hfz5_2:=kF HGz5 2;clear HGz5 hgz5
  go_enter Tryd.func27,Tryd.ntmps27
  go_wp2
  repeat (go_quiet (fail);try go_wp2)
  go_ret;exact ⟨eL_,by repeat (first|(with_reducible first|exact HI0.out|apply IsS40.alloc|apply IsS40.drewN|apply IsS40.drew|apply IsS40.set_1|apply IsS40.set_2)|exact HI0.out),by repeat (first|(with_reducible first|exact HB.out|apply bA|apply bN|apply bD|refine bS ?_ (IsS40.ge HI0.out))|exact HB.out),by repeat (first|(with_reducible first|exact HK.out|apply KeepBut.set_|apply keep_drewN|apply keep_drew|apply keep_alloc)|exact HK.out)⟩

/-! ### spec_l6Cur_pick: function 12 -/
def spec_l6Cur_pick.f (s0_0 : List Int) (s0_1 : Int) (s0_2 : Int) (a1 : Int) : Option (Int × Int × Int):=if a1 ≤ 1 then (some (0,s0_1,s0_2)) else ((spec_l6Cur_next.f s0_0 s0_1 s0_2).bind fun bt102 => (if a1 > 200 then ((spec_l6Cur_next.f s0_0 bt102.2.1 bt102.2.2).bind fun bt105 => (if a1 = 0 then (none) else (some (Int.tmod (wrap64 ((wrap64 (bt102.1 * 256)) + bt105.1)) a1,bt105.2.1,bt105.2.2)))) else (if a1 = 0 then (none) else (some (Int.tmod bt102.1 a1,bt102.2.1,bt102.2.2)))))
set_option maxHeartbeats 8000000 in
set_option maxRecDepth 100000 in
theorem spec_l6Cur_pick.calls (g : Nat) (s0_0 : List Int) (s0_1 : Int) (s0_2 : Int) (a1 : Int) (r1 : Int) (r2 : Int) (r3 : Int) (w0 w : World) (hI : IsS40 w0 w g s0_0 s0_1 s0_2) (hB : Below w0.heap.size w0 w) (h : spec_l6Cur_pick.f s0_0 s0_1 s0_2 a1 = some (r1,r2,r3)) :
  Calls Tryd.prog 12 #[.pointer (some ⟨g,0,none⟩),.int .i64 a1] w fun e w' => e = .returned (.int .i64 r1)∧IsS40 w0 w' g s0_0 r2 r3∧Below w0.heap.size w0 w'∧KeepBut w w' g none:=by
 have HI0:=Am hI;have HK:=Am (KeepBut.refl w g none);have HL:=Am hB.size;clear hI;have HW0:=Am hB.size;have HB:=Am hB;clear hB;have H : (if a1 ≤ 1 then (some (0,s0_1,s0_2)) else ((spec_l6Cur_next.f s0_0 s0_1 s0_2).bind fun bt102 => (if a1 > 200 then ((spec_l6Cur_next.f s0_0 bt102.2.1 bt102.2.2).bind fun bt105 => (if a1 = 0 then (none) else (some (Int.tmod (wrap64 ((wrap64 (bt102.1 * 256)) + bt105.1)) a1,bt105.2.1,bt105.2.2)))) else (if a1 = 0 then (none) else (some (Int.tmod bt102.1 a1,bt102.2.1,bt102.2.2)))))) = some (r1,r2,r3):=h;clear h
 by_cases c3 : a1 ≤ 1
 ·rw [if_pos c3] at H;have c3b0 : decide (a1 ≤ 1) = true:=decide_eq_true c3;clear c3;simp only [Option.some.injEq,Prod.mk.injEq] at H;obtain ⟨rfl,rfl,rfl⟩:=H
  go_enter Tryd.func12,Tryd.ntmps12
  go_wp2;go_ret;exact ⟨eL_,by repeat (first|(with_reducible first|exact HI0.out|apply IsS40.alloc|apply IsS40.drewN|apply IsS40.drew|apply IsS40.set_1|apply IsS40.set_2)|exact HI0.out),by repeat (first|(with_reducible first|exact HB.out|apply bA|apply bN|apply bD|refine bS ?_ (IsS40.ge HI0.out))|exact HB.out),by repeat (first|(with_reducible first|exact HK.out|apply KeepBut.set_|apply keep_drewN|apply keep_drew|apply keep_alloc)|exact HK.out)⟩
 ·rw [if_neg c3] at H;have c3b0 : decide (a1 ≤ 1) = false:=decide_eq_false c3;clear c3;replace H:=Option.bind_eq_some_iff.mp H;obtain ⟨⟨t102,t103,t104⟩,A40,H⟩:=H;replace H : (if a1 > 200 then ((spec_l6Cur_next.f s0_0 t103 t104).bind fun bt105 => (if a1 = 0 then (none) else (some (Int.tmod (wrap64 ((wrap64 (t102 * 256)) + bt105.1)) a1,bt105.2.1,bt105.2.2)))) else (if a1 = 0 then (none) else (some (Int.tmod t102 a1,t103,t104)))) = some (r1,r2,r3):=H;have A4:=Am A40;clear A40
  by_cases c5 : a1 > 200
  ·rw [if_pos c5] at H;have c5b0 : decide (200 < a1) = true:=decide_eq_true c5;clear c5;replace H:=Option.bind_eq_some_iff.mp H;obtain ⟨⟨t105,t106,t107⟩,A60,H⟩:=H;replace H : (if a1 = 0 then (none) else (some (Int.tmod (wrap64 ((wrap64 (t102 * 256)) + t105)) a1,t106,t107))) = some (r1,r2,r3):=H;have A6:=Am A60;clear A60
   by_cases c7 : a1 = 0
   ·rw [if_pos c7] at H;exact absurd H (by simp)
   ·rw [if_neg c7] at H;have c7b0 : (a1 == 0) = false:=beq_eq_false_iff_ne.mpr c7;have c7b1 : (a1 != 0) = true:=bne_iff_ne.mpr c7;simp only [Option.some.injEq,Prod.mk.injEq] at H;obtain ⟨rfl,rfl,rfl⟩:=H
    go_enter Tryd.func12,Tryd.ntmps12
    go_wp2_with (first|((with_reducible refine gate_callee (f:=27) rfl ?_);refine goesL_ (some 9) rfl rfl Tryd.func27 (by kernel_rfl) rfl #[.pointer (some ⟨g,0,none⟩)] rfl lA ?_;(with_reducible refine (spec_l6Cur_next.calls g s0_0 s0_1 s0_2 t102 t103 t104 w0 _ ?side1 ?side2 A4.out).mono ?_);(case side1 => repeat (first|(with_reducible first|exact HI0.out|apply IsS40.alloc|apply IsS40.drewN|apply IsS40.drew|apply IsS40.set_1|apply IsS40.set_2)|exact HI0.out));(case side2 => repeat (first|(with_reducible first|exact HB.out|apply bA|apply bN|apply bD|refine bS ?_ (IsS40.ge HI0.out))|exact HB.out));rintro e w8 ⟨rfl,hi,hb,hk⟩;refine ⟨_,rfl,?_⟩;have n0_:=Am (KeepBut.trans (by repeat (first|(with_reducible first|exact HK.out|apply KeepBut.set_|apply keep_drewN|apply keep_drew|apply keep_alloc)|exact HK.out)) hk (.inl rfl));have n1_:=Am (hb);have n2_:=Am (hi);clear HK;clear HB;clear HI0;have HK:=n0_;have HB:=n1_;have HI0:=n2_;clear n0_ n1_ n2_;(try clear hb);(try clear hb2);(try clear hk);(try clear hi))|((with_reducible refine gate_callee (f:=27) rfl ?_);refine goesL_ (some 15) rfl rfl Tryd.func27 (by kernel_rfl) rfl #[.pointer (some ⟨g,0,none⟩)] rfl lA ?_;(with_reducible refine (spec_l6Cur_next.calls g s0_0 t103 t104 t105 t106 t107 w0 _ ?side1 ?side2 A6.out).mono ?_);(case side1 => repeat (first|(with_reducible first|exact HI0.out|apply IsS40.alloc|apply IsS40.drewN|apply IsS40.drew|apply IsS40.set_1|apply IsS40.set_2)|exact HI0.out));(case side2 => repeat (first|(with_reducible first|exact HB.out|apply bA|apply bN|apply bD|refine bS ?_ (IsS40.ge HI0.out))|exact HB.out));rintro e w9 ⟨rfl,hi,hb,hk⟩;refine ⟨_,rfl,?_⟩;have n0_:=Am (KeepBut.trans (by repeat (first|(with_reducible first|exact HK.out|apply KeepBut.set_|apply keep_drewN|apply keep_drew|apply keep_alloc)|exact HK.out)) hk (.inl rfl));have n1_:=Am (hb);have n2_:=Am (hi);clear HK;clear HB;clear HI0;have HK:=n0_;have HB:=n1_;have HI0:=n2_;clear n0_ n1_ n2_;(try clear hb);(try clear hb2);(try clear hk);(try clear hi)))
    go_ret;exact ⟨eL_,by repeat (first|(with_reducible first|exact HI0.out|apply IsS40.alloc|apply IsS40.drewN|apply IsS40.drew|apply IsS40.set_1|apply IsS40.set_2)|exact HI0.out),by repeat (first|(with_reducible first|exact HB.out|apply bA|apply bN|apply bD|refine bS ?_ (IsS40.ge HI0.out))|exact HB.out),by repeat (first|(with_reducible first|exact HK.out|apply KeepBut.set_|apply keep_drewN|apply keep_drew|apply keep_alloc)|exact HK.out)⟩
  ·rw [if_neg c5] at H;have c5b0 : decide (200 < a1) = false:=decide_eq_false c5;clear c5
   by_cases c10 : a1 = 0
   ·rw [if_pos c10] at H;exact absurd H (by simp)
   ·rw [if_neg c10] at H;have c10b0 : (a1 == 0) = false:=beq_eq_false_iff_ne.mpr c10;have c10b1 : (a1 != 0) = true:=bne_iff_ne.mpr c10;simp only [Option.some.injEq,Prod.mk.injEq] at H;obtain ⟨rfl,rfl,rfl⟩:=H
    go_enter Tryd.func12,Tryd.ntmps12
    go_wp2_with (first|((with_reducible refine gate_callee (f:=27) rfl ?_);refine goesL_ (some 9) rfl rfl Tryd.func27 (by kernel_rfl) rfl #[.pointer (some ⟨g,0,none⟩)] rfl lA ?_;(with_reducible refine (spec_l6Cur_next.calls g s0_0 s0_1 s0_2 t102 t103 t104 w0 _ ?side1 ?side2 A4.out).mono ?_);(case side1 => repeat (first|(with_reducible first|exact HI0.out|apply IsS40.alloc|apply IsS40.drewN|apply IsS40.drew|apply IsS40.set_1|apply IsS40.set_2)|exact HI0.out));(case side2 => repeat (first|(with_reducible first|exact HB.out|apply bA|apply bN|apply bD|refine bS ?_ (IsS40.ge HI0.out))|exact HB.out));rintro e w11 ⟨rfl,hi,hb,hk⟩;refine ⟨_,rfl,?_⟩;have n0_:=Am (KeepBut.trans (by repeat (first|(with_reducible first|exact HK.out|apply KeepBut.set_|apply keep_drewN|apply keep_drew|apply keep_alloc)|exact HK.out)) hk (.inl rfl));have n1_:=Am (hb);have n2_:=Am (hi);clear HK;clear HB;clear HI0;have HK:=n0_;have HB:=n1_;have HI0:=n2_;clear n0_ n1_ n2_;(try clear hb);(try clear hb2);(try clear hk);(try clear hi)))
    go_ret;exact ⟨eL_,by repeat (first|(with_reducible first|exact HI0.out|apply IsS40.alloc|apply IsS40.drewN|apply IsS40.drew|apply IsS40.set_1|apply IsS40.set_2)|exact HI0.out),by repeat (first|(with_reducible first|exact HB.out|apply bA|apply bN|apply bD|refine bS ?_ (IsS40.ge HI0.out))|exact HB.out),by repeat (first|(with_reducible first|exact HK.out|apply KeepBut.set_|apply keep_drewN|apply keep_drew|apply keep_alloc)|exact HK.out)⟩

end Go.Proofs.YtanjbdgmnecacaaDoor.PT
