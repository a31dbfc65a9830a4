-- Written by a program of this session (wip/print/myprint.py) over the kit's print, with contracts of its own; not a text of print.sh's.
import Derived.Test.YtanjbdgmnecacaaDoorPTx0
import Derived.Test.YtanjbdgmnecacaaDoorPTx3
import Derived.Test.YtanjbdgmnecacaaDoorPTx4
namespace Go.Proofs.YtanjbdgmnecacaaDoor.PT
open Go.RowKit Go.Proofs.YtanjbdgmnecacaaDoorW.PrintWords Go.Proofs.YtanjbdgmnecacaaDoorW.PrintLast Go.Proofs.YtanjbdgmnecacaaDoorW.PrintMore
attribute [local go_sem] max2_int min2_int max_two min_two   -- for this text's walks alone
set_option linter.unusedVariables false
set_option linter.unusedSimpArgs false

/-! ### spec_l6Cur_speed: function 28 -/
def spec_l6Cur_speed.j0 : Nat → Bool → List Int → Int → Int → Option (Int × Int × Int)
 | 0,_,_,_,_ => none
 | k + 1,x12,x1000,x1001,x1002 => if x12 = true then ((spec_l6Cur_wide.f x1000 x1001 x1002 10000).bind fun bt169 => (some (bt169.1,bt169.2.1,bt169.2.2))) else ((spec_l6Cur_pick.f x1000 x1001 x1002 200).bind fun bt172 => (some (bt172.1,bt172.2.1,bt172.2.2)))
def spec_l6Cur_speed.f (k : Nat) (s0_0 : List Int) (s0_1 : Int) (s0_2 : Int) : Option (Int × Int × Int):=(spec_l6Cur_pick.f s0_0 s0_1 s0_2 10).bind fun bt159 => (if bt159.1 = 0 then ((some (([(-1),0,10000,10001] : List Int) : List Int)).bind fun y162 => ((spec_l6Cur_pick.f s0_0 bt159.2.1 bt159.2.2 4).bind fun bt165 => (if 0 ≤ bt165.1 then (if bt165.1 < (y162.length : Int) then (some (rd y162 bt165.1,bt165.2.1,bt165.2.2)) else (none)) else (none)))) else (if bt159.1 = 1 then (spec_l6Cur_speed.j0 k (bt159.1 == 1) s0_0 bt159.2.1 bt159.2.2) else (spec_l6Cur_speed.j0 k (bt159.1 == 2) s0_0 bt159.2.1 bt159.2.2)))
theorem spec_l6Cur_speed.mono_l : ∀ k,(∀ y0 y1 y2 y3,LeO (spec_l6Cur_speed.j0 k y0 y1 y2 y3) (spec_l6Cur_speed.j0 (k + 1) y0 y1 y2 y3))
 | 0 => fun _ _ _ _ r h => by simp [spec_l6Cur_speed.j0] at h
 | k + 1 => by
  have ih0:=spec_l6Cur_speed.mono_l k
  ·intro y0 y1 y2 y3;unfold spec_l6Cur_speed.j0
   repeat' first
   | (with_reducible exact ih0 _ _ _ _)
   | (with_reducible exact LeO.refl _)
   | (with_reducible exact LeO.none _)
   | (with_reducible refine LeO.ite ?_ ?_)
   | (with_reducible refine LeO.bind ?_ (fun _ => ?_))
   | exact ih0 _ _ _ _
   | exact LeO.none _
   | refine LeO.ite ?_ ?_
   | refine LeO.bind ?_ (fun _ => ?_)
theorem spec_l6Cur_speed.mono : ∀ a0 a1 a2 k,LeO (spec_l6Cur_speed.f k a0 a1 a2) (spec_l6Cur_speed.f (k + 1) a0 a1 a2):=by
 intro a0 a1 a2 k;have ih0:=spec_l6Cur_speed.mono_l k;unfold spec_l6Cur_speed.f
 repeat' first
   | (with_reducible exact ih0 _ _ _ _)
   | (with_reducible exact LeO.refl _)
   | (with_reducible exact LeO.none _)
   | (with_reducible refine LeO.ite ?_ ?_)
   | (with_reducible refine LeO.bind ?_ (fun _ => ?_))
   | exact ih0 _ _ _ _
   | exact LeO.none _
   | refine LeO.ite ?_ ?_
   | refine LeO.bind ?_ (fun _ => ?_)
set_option maxHeartbeats 8000000 in
set_option maxRecDepth 100000 in
theorem spec_l6Cur_speed.calls (k : Nat) (g : Nat) (s0_0 : List Int) (s0_1 : Int) (s0_2 : Int) (r1 : Int) (r2 : Int) (r3 : Int) (w0 w : World) (hI : IsS40 w0 w g s0_0 s0_1 s0_2) (hB : Below w0.heap.size w0 w) (h : spec_l6Cur_speed.f k s0_0 s0_1 s0_2 = some (r1,r2,r3)) :
  Calls Tryd.prog 28 #[.pointer (some ⟨g,0,none⟩)] w fun e w' => e = .returned (.int .i64 r1)∧IsS40 w0 w' g s0_0 r2 r3∧Below w0.heap.size w0 w'∧KeepBut w w' g none:=by
 have HI0:=Am hI;have HK:=Am (KeepBut.refl w g none);have HL:=Am hB.size;clear hI;have HW0:=Am hB.size;have HB:=Am hB;clear hB;have H : ((spec_l6Cur_pick.f s0_0 s0_1 s0_2 10).bind fun bt159 => (if bt159.1 = 0 then ((some (([(-1),0,10000,10001] : List Int) : List Int)).bind fun y162 => ((spec_l6Cur_pick.f s0_0 bt159.2.1 bt159.2.2 4).bind fun bt165 => (if 0 ≤ bt165.1 then (if bt165.1 < (y162.length : Int) then (some (rd y162 bt165.1,bt165.2.1,bt165.2.2)) else (none)) else (none)))) else (if bt159.1 = 1 then (spec_l6Cur_speed.j0 k (bt159.1 == 1) s0_0 bt159.2.1 bt159.2.2) else (spec_l6Cur_speed.j0 k (bt159.1 == 2) s0_0 bt159.2.1 bt159.2.2)))) = some (r1,r2,r3):=h;clear h;replace H:=Option.bind_eq_some_iff.mp H;obtain ⟨⟨t159,t160,t161⟩,A20,H⟩:=H;replace H : (if t159 = 0 then ((some (([(-1),0,10000,10001] : List Int) : List Int)).bind fun y162 => ((spec_l6Cur_pick.f s0_0 t160 t161 4).bind fun bt165 => (if 0 ≤ bt165.1 then (if bt165.1 < (y162.length : Int) then (some (rd y162 bt165.1,bt165.2.1,bt165.2.2)) else (none)) else (none)))) else (if t159 = 1 then (spec_l6Cur_speed.j0 k (t159 == 1) s0_0 t160 t161) else (spec_l6Cur_speed.j0 k (t159 == 2) s0_0 t160 t161))) = some (r1,r2,r3):=H;have A2:=Am A20;clear A20
 by_cases c3 : t159 = 0
 ·rw [if_pos c3] at H;have c3b0 : (t159 == 0) = true:=beq_iff_eq.mpr c3;have c3b1 : (t159 != 0) = false:=bne_eq_false_iff_eq.mpr c3;clear c3
  obtain ⟨y162,hy162⟩ : ∃ y_ : List Int,y_ = (([(-1),0,10000,10001] : List Int)):=⟨_,rfl⟩
  replace H : ((spec_l6Cur_pick.f s0_0 t160 t161 4).bind fun bt165 => (if 0 ≤ bt165.1 then (if bt165.1 < (y162.length : Int) then (some (rd y162 bt165.1,bt165.2.1,bt165.2.2)) else (none)) else (none))) = some (r1,r2,r3):=by first|(rw [hy162];with_reducible exact H)|(have H2_:=(Option.bind_some _ _).symm.trans H;rw [hy162];with_reducible exact H2_)|(have H2_:=(Option.bind_some _ _).symm.trans H;with_reducible exact H2_)|with_reducible exact H|(rw [hy162];exact H)|exact H
  have Ny162:=Am hy162;clear hy162;replace H:=Option.bind_eq_some_iff.mp H;obtain ⟨⟨t165,t166,t167⟩,A40,H⟩:=H;replace H : (if 0 ≤ t165 then (if t165 < (y162.length : Int) then (some (rd y162 t165,t166,t167)) else (none)) else (none)) = some (r1,r2,r3):=H;have A4:=Am A40;clear A40
  by_cases c5 : 0 ≤ t165
  ·rw [if_pos c5] at H;have c5b0 : decide (0 ≤ t165) = true:=decide_eq_true c5;clear c5
   by_cases c6 : t165 < (y162.length : Int)
   ·rw [if_pos c6] at H;have c6b0 : decide (t165 < (y162.length : Int)) = true:=decide_eq_true c6;clear c6;simp only [Option.some.injEq,Prod.mk.injEq] at H;obtain ⟨rfl,rfl,rfl⟩:=H
    go_enter Tryd.func28,Tryd.ntmps28
    go_wp2_with (first|((with_reducible refine gate_callee (f:=12) rfl ?_);refine goesL_ (some 4) rfl rfl Tryd.func12 (by kernel_rfl) rfl #[.pointer (some ⟨g,0,none⟩),.int .i64 10] rfl lA ?_;(with_reducible refine (spec_l6Cur_pick.calls g s0_0 s0_1 s0_2 10 t159 t160 t161 w0 _ ?side1 ?side2 A2.out).mono ?_);(case side1 => repeat (first|(with_reducible first|exact HI0.out|apply IsS40.alloc|apply IsS40.drewN|apply IsS40.drew|apply IsS40.set_1|apply IsS40.set_2)|exact HI0.out));(case side2 => repeat (first|(with_reducible first|exact HB.out|apply bA|apply bN|apply bD|refine bS ?_ (IsS40.ge HI0.out))|exact HB.out));rintro e w7 ⟨rfl,hi,hb,hk⟩;refine ⟨_,rfl,?_⟩;have n0_:=Am (KeepBut.trans (by repeat (first|(with_reducible first|exact HK.out|apply KeepBut.set_|apply keep_drewN|apply keep_drew|apply keep_alloc)|exact HK.out)) hk (.inl rfl));have n1_:=Am (hb);have n2_:=Am (hi);clear HK;clear HB;clear HI0;have HK:=n0_;have HB:=n1_;have HI0:=n2_;clear n0_ n1_ n2_;(try clear hb);(try clear hb2);(try clear hk);(try clear hi))|((with_reducible refine gate_dst (N:=7) rfl ?_);refine Kd.R_lit (Kd.int .i64) _ 3 ?hg (N:=7) ?hd (xs:=([(-1),0,10000,10001] : List Int)) (inner:=[.int .i64 (-1),.int .i64 0,.int .i64 10000,.int .i64 10001]) (ok:=fun _ => True) (okp:=fun _ => True) ?hr ?hp (fun _ hk => hk) trivial (Below.refl _ _) (Nat.le_refl _) (by simp) ?_;(case hd => rfl);(case hg => rfl);(case hr => first|(go_simp;done)|(go_simp;rfl));(case hp => exact (Reps.one (show Kd.M (Kd.int .i64) _ _ _ (-1) [.int .i64 (-1)] from rfl) (Reps.one (show Kd.M (Kd.int .i64) _ _ _ 0 [.int .i64 0] from rfl) (Reps.one (show Kd.M (Kd.int .i64) _ _ _ 10000 [.int .i64 10000] from rfl) (Reps.one (show Kd.M (Kd.int .i64) _ _ _ 10001 [.int .i64 10001] from rfl) (Reps.none _ _))))));intro v163 w8 ho9 hb hg_ hnew_;clear hg_ hnew_;(first|rw [← Ny162.out] at ho9|(simp only [Int.reduceToNat] at ho9;rw [← Ny162.out] at ho9));have n0_:=Am (Kd.R_lower ho9 (keep_size (w:=w) (g:=g) (row:=none) (by repeat (first|(with_reducible first|exact HK.out|apply KeepBut.set_|apply keep_drewN|apply keep_drew|apply keep_alloc)|exact HK.out))));have n1_:=Am (IsS40.below (by repeat (first|(with_reducible first|exact HI0.out|apply IsS40.alloc|apply IsS40.drewN|apply IsS40.drew|apply IsS40.set_1|apply IsS40.set_2)|exact HI0.out)) hb);have n2_:=Am (KeepBut.trans (by repeat (first|(with_reducible first|exact HK.out|apply KeepBut.set_|apply keep_drewN|apply keep_drew|apply keep_alloc)|exact HK.out)) (KeepBut.of_below hb g none) (.inl rfl));have n3_:=Am (below_step (by repeat (first|(with_reducible first|exact HB.out|apply bA|apply bN|apply bD|refine bS ?_ (IsS40.ge HI0.out))|exact HB.out)) hb);clear HI0;clear HK;clear HB;have HO164:=n0_;have HI0:=n1_;have HK:=n2_;have HB:=n3_;clear n0_ n1_ n2_ n3_;clear hb ho9)|((with_reducible refine gate_callee (f:=12) rfl ?_);refine goesL_ (some 9) rfl rfl Tryd.func12 (by kernel_rfl) rfl #[.pointer (some ⟨g,0,none⟩),.int .i64 4] rfl lA ?_;(with_reducible refine (spec_l6Cur_pick.calls g s0_0 t160 t161 4 t165 t166 t167 w0 _ ?side1 ?side2 A4.out).mono ?_);(case side1 => repeat (first|(with_reducible first|exact HI0.out|apply IsS40.alloc|apply IsS40.drewN|apply IsS40.drew|apply IsS40.set_1|apply IsS40.set_2)|exact HI0.out));(case side2 => repeat (first|(with_reducible first|exact HB.out|apply bA|apply bN|apply bD|refine bS ?_ (IsS40.ge HI0.out))|exact HB.out));rintro e w10 ⟨rfl,hi,hb,hk⟩;refine ⟨_,rfl,?_⟩;have n0_:=Am (IsS40.kp HI0 HO164 hk);have n1_:=Am (KeepBut.trans (by repeat (first|(with_reducible first|exact HK.out|apply KeepBut.set_|apply keep_drewN|apply keep_drew|apply keep_alloc)|exact HK.out)) hk (.inl rfl));have n2_:=Am (hb);have n3_:=Am (hi);clear HO164;clear HK;clear HB;clear HI0;have HO164:=n0_;have HK:=n1_;have HB:=n2_;have HI0:=n3_;clear n0_ n1_ n2_ n3_;(try clear hb);(try clear hb2);(try clear hk);(try clear hi);obtain ⟨Ao11,co11,eo11⟩:=Kd.R_slice HO164.out;subst eo11;have p168 : 0 ≤ (t165 : Int):=of_decide_eq_true (by first|(with_reducible assumption)|assumption);have q168 : t165 < (y162.length : Int):=of_decide_eq_true (by first|(with_reducible assumption)|assumption);obtain ⟨ad168,e168,hx168_0⟩:=Kd.at_int (Kd.R_reads' HO164.out).2.2 t165 p168 q168;cases e168;replace p168:=eq_true p168;replace q168:=eq_true q168))
    go_ret;exact ⟨eL_,by repeat (first|(with_reducible first|exact HI0.out|apply IsS40.alloc|apply IsS40.drewN|apply IsS40.drew|apply IsS40.set_1|apply IsS40.set_2)|exact HI0.out),by repeat (first|(with_reducible first|exact HB.out|apply bA|apply bN|apply bD|refine bS ?_ (IsS40.ge HI0.out))|exact HB.out),by repeat (first|(with_reducible first|exact HK.out|apply KeepBut.set_|apply keep_drewN|apply keep_drew|apply keep_alloc)|exact HK.out)⟩
   ·rw [if_neg c6] at H;exact absurd H (by simp)
  ·rw [if_neg c5] at H;exact absurd H (by simp)
 ·rw [if_neg c3] at H;have c3b0 : (t159 == 0) = false:=beq_eq_false_iff_ne.mpr c3;have c3b1 : (t159 != 0) = true:=bne_iff_ne.mpr c3;have HC12:=Am H;clear H
  go_enter Tryd.func28,Tryd.ntmps28
  go_upto_if 12 with (first|((with_reducible refine gate_callee (f:=12) rfl ?_);refine goesL_ (some 4) rfl rfl Tryd.func12 (by kernel_rfl) rfl #[.pointer (some ⟨g,0,none⟩),.int .i64 10] rfl lA ?_;(with_reducible refine (spec_l6Cur_pick.calls g s0_0 s0_1 s0_2 10 t159 t160 t161 w0 _ ?side1 ?side2 A2.out).mono ?_);(case side1 => repeat (first|(with_reducible first|exact HI0.out|apply IsS40.alloc|apply IsS40.drewN|apply IsS40.drew|apply IsS40.set_1|apply IsS40.set_2)|exact HI0.out));(case side2 => repeat (first|(with_reducible first|exact HB.out|apply bA|apply bN|apply bD|refine bS ?_ (IsS40.ge HI0.out))|exact HB.out));rintro e w13 ⟨rfl,hi,hb,hk⟩;refine ⟨_,rfl,?_⟩;have n0_:=Am (KeepBut.trans (by repeat (first|(with_reducible first|exact HK.out|apply KeepBut.set_|apply keep_drewN|apply keep_drew|apply keep_alloc)|exact HK.out)) hk (.inl rfl));have n1_:=Am (hb);have n2_:=Am (hi);clear HK;clear HB;clear HI0;have HK:=n0_;have HB:=n1_;have HI0:=n2_;clear n0_ n1_ n2_;(try clear hb);(try clear hb2);(try clear hk);(try clear hi)))
  (try simp only [Act.put,List.setIfInBounds_toArray,List.set_cons_zero,List.set_cons_succ])
  go_cut [12] (fun v12 wc => ∃ (kq : Nat) (x12_11 : Bool),v12 = .bool x12_11∧As (spec_l6Cur_speed.j0 kq x12_11 s0_0 t160 t161 = some (r1,r2,r3))∧As (kq ≤ k)∧As (IsS40 w0 wc g s0_0 t160 t161)∧As (KeepBut w wc g none)∧As (Below w0.heap.size w0 wc))
  case first =>
   have H:=HC12.out;clear HC12
   by_cases c14 : t159 = 1
   ·rw [if_pos c14] at H;have c14b0 : (t159 == 1) = true:=beq_iff_eq.mpr c14;have c14b1 : (t159 != 1) = false:=bne_eq_false_iff_eq.mpr c14;clear c14
    (first|rw [c14b0]|(simp only [i64_w,i32_w];rw [c14b0])|skip)
    have H':=Am H;clear H;go_wp2
    go_meet
    case rel => exact ⟨_,((t159 == 1)),vL_,H',⟨by first|omega|exact Nat.le_refl _⟩,⟨by repeat (first|(with_reducible first|exact HI0.out|apply IsS40.alloc|apply IsS40.drewN|apply IsS40.drew|apply IsS40.set_1|apply IsS40.set_2)|exact HI0.out)⟩,⟨by repeat (first|(with_reducible first|exact HK.out|apply KeepBut.set_|apply keep_drewN|apply keep_drew|apply keep_alloc)|exact HK.out)⟩,⟨by repeat (first|(with_reducible first|exact HB.out|apply bA|apply bN|apply bD|refine bS ?_ (IsS40.ge HI0.out))|exact HB.out)⟩⟩
   ·rw [if_neg c14] at H;have c14b0 : (t159 == 1) = false:=beq_eq_false_iff_ne.mpr c14;have c14b1 : (t159 != 1) = true:=bne_iff_ne.mpr c14
    (first|rw [c14b0]|(simp only [i64_w,i32_w];rw [c14b0])|skip)
    have H':=Am H;clear H;go_wp2
    go_meet
    case rel => exact ⟨_,((t159 == 2)),vL_,H',⟨by first|omega|exact Nat.le_refl _⟩,⟨by repeat (first|(with_reducible first|exact HI0.out|apply IsS40.alloc|apply IsS40.drewN|apply IsS40.drew|apply IsS40.set_1|apply IsS40.set_2)|exact HI0.out)⟩,⟨by repeat (first|(with_reducible first|exact HK.out|apply KeepBut.set_|apply keep_drewN|apply keep_drew|apply keep_alloc)|exact HK.out)⟩,⟨by repeat (first|(with_reducible first|exact HB.out|apply bA|apply bN|apply bD|refine bS ?_ (IsS40.ge HI0.out))|exact HB.out)⟩⟩
  case rest =>
   clear HC12;(try clear c1);(try clear p1);(try clear q1);(try clear hx1);(try clear c2);(try clear p2);(try clear c3);(try clear c3b0);(try clear c3b1);(try clear c5);(try clear c5b0);(try clear c6);(try clear c6b0);(try clear c12);(try clear c14);(try clear c14b0);(try clear c14b1);(try clear hx168_0);(try clear p168);(try clear q168);obtain ⟨kq,x12_11,rfl,HA,HJ11,HI0,HK,HB⟩:=hcut
   cases kq with
   | zero => exact absurd HA.out (by simp [spec_l6Cur_speed.j0])
   | succ kj11 =>
    have H:=HA.out;clear HA;simp only [spec_l6Cur_speed.j0] at H
    by_cases c15 : x12_11 = true
    ·subst c15
     rw [if_pos rfl] at H;replace H:=Option.bind_eq_some_iff.mp H;obtain ⟨⟨t169,t170,t171⟩,A160,H⟩:=H;replace H : (some (t169,t170,t171)) = some (r1,r2,r3):=H;have A16:=Am A160;clear A160;simp only [Option.some.injEq,Prod.mk.injEq] at H;obtain ⟨rfl,rfl,rfl⟩:=H
     go_wp2_with (first|((with_reducible refine gate_callee (f:=13) rfl ?_);refine goesL_ (some 16) rfl rfl Tryd.func13 (by kernel_rfl) rfl #[.pointer (some ⟨g,0,none⟩),.int .i64 10000] rfl lA ?_;(with_reducible refine (spec_l6Cur_wide.calls g s0_0 t160 t161 10000 t169 t170 t171 w0 _ ?side1 ?side2 A16.out).mono ?_);(case side1 => repeat (first|(with_reducible first|exact HI0.out|apply IsS40.alloc|apply IsS40.drewN|apply IsS40.drew|apply IsS40.set_1|apply IsS40.set_2)|exact HI0.out));(case side2 => repeat (first|(with_reducible first|exact HB.out|apply bA|apply bN|apply bD|refine bS ?_ (IsS40.ge HI0.out))|exact HB.out));rintro e w17 ⟨rfl,hi,hb,hk⟩;refine ⟨_,rfl,?_⟩;have n0_:=Am (KeepBut.trans (by repeat (first|(with_reducible first|exact HK.out|apply KeepBut.set_|apply keep_drewN|apply keep_drew|apply keep_alloc)|exact HK.out)) hk (.inl rfl));have n1_:=Am (hb);have n2_:=Am (hi);clear HK;clear HB;clear HI0;have HK:=n0_;have HB:=n1_;have HI0:=n2_;clear n0_ n1_ n2_;(try clear hb);(try clear hb2);(try clear hk);(try clear hi)))
     go_ret;exact ⟨eL_,by repeat (first|(with_reducible first|exact HI0.out|apply IsS40.alloc|apply IsS40.drewN|apply IsS40.drew|apply IsS40.set_1|apply IsS40.set_2)|exact HI0.out),by repeat (first|(with_reducible first|exact HB.out|apply bA|apply bN|apply bD|refine bS ?_ (IsS40.ge HI0.out))|exact HB.out),by repeat (first|(with_reducible first|exact HK.out|apply KeepBut.set_|apply keep_drewN|apply keep_drew|apply keep_alloc)|exact HK.out)⟩
    ·replace c15:=Bool.eq_false_iff.mpr c15;subst c15
     rw [if_neg (show ¬ (false = true) by decide)] at H;replace H:=Option.bind_eq_some_iff.mp H;obtain ⟨⟨t172,t173,t174⟩,A180,H⟩:=H;replace H : (some (t172,t173,t174)) = some (r1,r2,r3):=H;have A18:=Am A180;clear A180;simp only [Option.some.injEq,Prod.mk.injEq] at H;obtain ⟨rfl,rfl,rfl⟩:=H
     go_wp2_with (first|((with_reducible refine gate_callee (f:=12) rfl ?_);refine goesL_ (some 18) rfl rfl Tryd.func12 (by kernel_rfl) rfl #[.pointer (some ⟨g,0,none⟩),.int .i64 200] rfl lA ?_;(with_reducible refine (spec_l6Cur_pick.calls g s0_0 t160 t161 200 t172 t173 t174 w0 _ ?side1 ?side2 A18.out).mono ?_);(case side1 => repeat (first|(with_reducible first|exact HI0.out|apply IsS40.alloc|apply IsS40.drewN|apply IsS40.drew|apply IsS40.set_1|apply IsS40.set_2)|exact HI0.out));(case side2 => repeat (first|(with_reducible first|exact HB.out|apply bA|apply bN|apply bD|refine bS ?_ (IsS40.ge HI0.out))|exact HB.out));rintro e w19 ⟨rfl,hi,hb,hk⟩;refine ⟨_,rfl,?_⟩;have n0_:=Am (KeepBut.trans (by repeat (first|(with_reducible first|exact HK.out|apply KeepBut.set_|apply keep_drewN|apply keep_drew|apply keep_alloc)|exact HK.out)) hk (.inl rfl));have n1_:=Am (hb);have n2_:=Am (hi);clear HK;clear HB;clear HI0;have HK:=n0_;have HB:=n1_;have HI0:=n2_;clear n0_ n1_ n2_;(try clear hb);(try clear hb2);(try clear hk);(try clear hi)))
     go_ret;exact ⟨eL_,by repeat (first|(with_reducible first|exact HI0.out|apply IsS40.alloc|apply IsS40.drewN|apply IsS40.drew|apply IsS40.set_1|apply IsS40.set_2)|exact HI0.out),by repeat (first|(with_reducible first|exact HB.out|apply bA|apply bN|apply bD|refine bS ?_ (IsS40.ge HI0.out))|exact HB.out),by repeat (first|(with_reducible first|exact HK.out|apply KeepBut.set_|apply keep_drewN|apply keep_drew|apply keep_alloc)|exact HK.out)⟩

end Go.Proofs.YtanjbdgmnecacaaDoor.PT
