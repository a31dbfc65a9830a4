-- Written by a program of this session (wip/print/myprint.py) over the kit's print, with contracts of its own; not a text of print.sh's.
import Derived.Test.YtanjbdgmnecacaaPAx0
import Derived.Test.YtanjbdgmnecacaaPAx3
import Derived.Test.YtanjbdgmnecacaaPAx6
namespace Go.Proofs.Ytanjbdgmnecacaa.PA
open Go.RowKit Go.Proofs.YtanjbdgmnecacaaW.PrintWords Go.Proofs.YtanjbdgmnecacaaW.PrintLast Go.Proofs.YtanjbdgmnecacaaW.PrintMore
attribute [local go_sem] max2_int min2_int max_two min_two   -- for this text's walks alone
set_option linter.unusedVariables false
set_option linter.unusedSimpArgs false

/-! ### spec_l6Cur_wants: function 33 -/
def spec_l6Cur_wants.l0 : Nat → List Int → Int → Int → List Int → Int → Int → Option (List Int × Int × Int)
 | 0,_,_,_,_,_,_ => none
 | k + 1,x3,x4,x5,x1000,x1001,x1002 => if x5 > 0 then ((spec_l6Cur_pick.f x1000 x1001 x1002 6).bind fun bt181 => (if bt181.1 = 0 then ((spec_l6Cur_speed.f k x1000 bt181.2.1 bt181.2.2).bind fun bt184 => (if x3.length < 17592186044416 then (spec_l6Cur_wants.l0 k (x3 ++ [bt184.1]) bt184.1 (wrap64 (x5 - 1)) x1000 bt184.2.1 bt184.2.2) else (none))) else (if bt181.1 = 1 then ((spec_l6Cur_pick.f x1000 bt181.2.1 bt181.2.2 60).bind fun bt190 => (if x3.length < 17592186044416 then (spec_l6Cur_wants.l0 k (x3 ++ [wrap64 (x4 + bt190.1)]) (wrap64 (x4 + bt190.1)) (wrap64 (x5 - 1)) x1000 bt190.2.1 bt190.2.2) else (none))) else (if bt181.1 = 2 then ((spec_l6Cur_pick.f x1000 bt181.2.1 bt181.2.2 30).bind fun bt196 => (if x3.length < 17592186044416 then (spec_l6Cur_wants.l0 k (x3 ++ [wrap64 (x4 - bt196.1)]) (wrap64 (x4 - bt196.1)) (wrap64 (x5 - 1)) x1000 bt196.2.1 bt196.2.2) else (none))) else ((spec_l6Cur_pick.f x1000 bt181.2.1 bt181.2.2 12).bind fun bt202 => (if x3.length < 17592186044416 then (spec_l6Cur_wants.l0 k (x3 ++ [wrap64 (x4 + bt202.1)]) (wrap64 (x4 + bt202.1)) (wrap64 (x5 - 1)) x1000 bt202.2.1 bt202.2.2) else (none))))))) else (some (x3,x1001,x1002))
def spec_l6Cur_wants.f (k : Nat) (s0_0 : List Int) (s0_1 : Int) (s0_2 : Int) : Option (List Int × Int × Int):=(spec_l6Cur_pick.f s0_0 s0_1 s0_2 40).bind fun bt175 => ((spec_l6Cur_pick.f s0_0 bt175.2.1 bt175.2.2 40).bind fun bt178 => (spec_l6Cur_wants.l0 k ([] : List Int) bt175.1 bt178.1 s0_0 bt178.2.1 bt178.2.2))
theorem spec_l6Cur_wants.mono_l : ∀ k,(∀ y0 y1 y2 y3 y4 y5,LeO (spec_l6Cur_wants.l0 k y0 y1 y2 y3 y4 y5) (spec_l6Cur_wants.l0 (k + 1) y0 y1 y2 y3 y4 y5))
 | 0 => fun _ _ _ _ _ _ r h => by simp [spec_l6Cur_wants.l0] at h
 | k + 1 => by
  have ih0:=spec_l6Cur_wants.mono_l k
  ·intro y0 y1 y2 y3 y4 y5
   unfold spec_l6Cur_wants.l0
   repeat' first
   | (with_reducible exact ih0 _ _ _ _ _ _)
   | (with_reducible exact spec_l6Cur_speed.mono _ _ _ _)
   | (with_reducible exact LeO.refl _)
   | (with_reducible exact LeO.none _)
   | (with_reducible refine LeO.ite ?_ ?_)
   | (with_reducible refine LeO.bind ?_ (fun _ => ?_))
   | exact ih0 _ _ _ _ _ _
   | exact spec_l6Cur_speed.mono _ _ _ _
   | exact LeO.none _
   | refine LeO.ite ?_ ?_
   | refine LeO.bind ?_ (fun _ => ?_)
theorem spec_l6Cur_wants.mono : ∀ a0 a1 a2 k,LeO (spec_l6Cur_wants.f k a0 a1 a2) (spec_l6Cur_wants.f (k + 1) a0 a1 a2):=by
 intro a0 a1 a2 k
 have ih0:=spec_l6Cur_wants.mono_l k
 unfold spec_l6Cur_wants.f
 repeat' first
   | (with_reducible exact ih0 _ _ _ _ _ _)
   | (with_reducible exact spec_l6Cur_speed.mono _ _ _ _)
   | (with_reducible exact LeO.refl _)
   | (with_reducible exact LeO.none _)
   | (with_reducible refine LeO.ite ?_ ?_)
   | (with_reducible refine LeO.bind ?_ (fun _ => ?_))
   | exact ih0 _ _ _ _ _ _
   | exact spec_l6Cur_speed.mono _ _ _ _
   | exact LeO.none _
   | refine LeO.ite ?_ ?_
   | refine LeO.bind ?_ (fun _ => ?_)
set_option maxHeartbeats 8000000 in
set_option maxRecDepth 100000 in
theorem spec_l6Cur_wants.calls (k : Nat) (g : Nat) (s0_0 : List Int) (s0_1 : Int) (s0_2 : Int) (r1 : List Int) (r2 : Int) (r3 : Int) (w0 w : World) (hI : IsS59 w0 w g s0_0 s0_1 s0_2) (hB : Below w0.heap.size w0 w) (h : spec_l6Cur_wants.f k s0_0 s0_1 s0_2 = some (r1,r2,r3)) :
  Calls Try.prog 33 #[.pointer (some ⟨g,0,none⟩)] w fun e w' => ∃ v0_ : Value,e = .returned (v0_)∧Kd.R (Kd.int .i64) 3 w' w.heap.size (fun _ => True) v0_ r1∧IsS59 w0 w' g s0_0 r2 r3∧Below w0.heap.size w0 w'∧KeepBut w w' g none:=by
 have HI0:=Am hI
 have HK:=Am (KeepBut.refl w g none)
 have HL:=Am hB.size
 clear hI
 have HW0:=Am hB.size
 have HB:=Am hB
 clear hB
 have H : ((spec_l6Cur_pick.f s0_0 s0_1 s0_2 40).bind fun bt175 => ((spec_l6Cur_pick.f s0_0 bt175.2.1 bt175.2.2 40).bind fun bt178 => (spec_l6Cur_wants.l0 k ([] : List Int) bt175.1 bt178.1 s0_0 bt178.2.1 bt178.2.2))) = some (r1,r2,r3):=h
 clear h
 replace H:=Option.bind_eq_some_iff.mp H
 obtain ⟨⟨t175,t176,t177⟩,A20,H⟩:=H
 replace H : ((spec_l6Cur_pick.f s0_0 t176 t177 40).bind fun bt178 => (spec_l6Cur_wants.l0 k ([] : List Int) t175 bt178.1 s0_0 bt178.2.1 bt178.2.2)) = some (r1,r2,r3):=H
 have A2:=Am A20
 clear A20
 replace H:=Option.bind_eq_some_iff.mp H
 obtain ⟨⟨t178,t179,t180⟩,A30,H⟩:=H
 replace H : (spec_l6Cur_wants.l0 k ([] : List Int) t175 t178 s0_0 t179 t180) = some (r1,r2,r3):=H
 have A3:=Am A30
 clear A30
 have H':=Am H
 clear H
 go_enter Try.func33,Try.ntmps33
 go_wp2_with (first|((with_reducible refine gate_callee (f:=31) rfl ?_);refine goesL_ (some 7) rfl rfl Try.func31 (by kernel_rfl) rfl #[.pointer (some ⟨g,0,none⟩),.int .i64 40] rfl (by (try simp only [List.map_toArray,List.map_cons,List.map_nil]);first|done|rfl|(simp only [List.length_drop,List.length_take];rfl)) ?_;(with_reducible refine (spec_l6Cur_pick.calls g s0_0 s0_1 s0_2 40 t175 t176 t177 w0 _ ?side1 ?side2 A2.out).mono ?_);(case side1 => repeat (first|(with_reducible first|exact HI0.out|apply IsS59.alloc|apply IsS59.drewN|apply IsS59.drew|apply IsS59.set_1|apply IsS59.set_2)|exact HI0.out));(case side2 => repeat (first|(with_reducible first|exact HB.out|apply bA|apply bN|apply bD|refine bS ?_ (IsS59.ge HI0.out))|exact HB.out));rintro e w4 ⟨rfl,hi,hb,hk⟩;refine ⟨_,rfl,?_⟩;have n0_:=Am (KeepBut.trans (by repeat (first|(with_reducible first|exact HK.out|apply KeepBut.set_|apply keep_drewN|apply keep_drew|apply keep_alloc)|exact HK.out)) hk (.inl rfl));have n1_:=Am (hb);have n2_:=Am (hi);clear HK;clear HB;clear HI0;have HK:=n0_;have HB:=n1_;have HI0:=n2_;clear n0_ n1_ n2_;(try clear hb);(try clear hb2);(try clear hk);(try clear hi))|((with_reducible refine gate_callee (f:=31) rfl ?_);refine goesL_ (some 9) rfl rfl Try.func31 (by kernel_rfl) rfl #[.pointer (some ⟨g,0,none⟩),.int .i64 40] rfl (by (try simp only [List.map_toArray,List.map_cons,List.map_nil]);first|done|rfl|(simp only [List.length_drop,List.length_take];rfl)) ?_;(with_reducible refine (spec_l6Cur_pick.calls g s0_0 t176 t177 40 t178 t179 t180 w0 _ ?side1 ?side2 A3.out).mono ?_);(case side1 => repeat (first|(with_reducible first|exact HI0.out|apply IsS59.alloc|apply IsS59.drewN|apply IsS59.drew|apply IsS59.set_1|apply IsS59.set_2)|exact HI0.out));(case side2 => repeat (first|(with_reducible first|exact HB.out|apply bA|apply bN|apply bD|refine bS ?_ (IsS59.ge HI0.out))|exact HB.out));rintro e w5 ⟨rfl,hi,hb,hk⟩;refine ⟨_,rfl,?_⟩;have n0_:=Am (KeepBut.trans (by repeat (first|(with_reducible first|exact HK.out|apply KeepBut.set_|apply keep_drewN|apply keep_drew|apply keep_alloc)|exact HK.out)) hk (.inl rfl));have n1_:=Am (hb);have n2_:=Am (hi);clear HK;clear HB;clear HI0;have HK:=n0_;have HB:=n1_;have HI0:=n2_;clear n0_ n1_ n2_;(try clear hb);(try clear hb2);(try clear hk);(try clear hi)))
 go_loopg [3,4,5] k (fun kq v3 v4 v5 w' => ∃ (x3_1 : List Int) (x4_1 : Int) (x5_1 : Int) (x1001_1 : Int) (x1002_1 : Int),v4 = .int .i64 x4_1∧v5 = .int .i64 x5_1∧As (spec_l6Cur_wants.l0 kq x3_1 x4_1 x5_1 s0_0 x1001_1 x1002_1 = some (r1,r2,r3))∧As (kq ≤ k)∧As (Kd.R (Kd.int .i64) 3 w' w.heap.size (fun _ => True) v3 x3_1)∧As (IsS59 w0 w' g s0_0 x1001_1 x1002_1)∧As (KeepBut w w' g none)∧As (Below w0.heap.size w0 w'))
 case atStart => exact ⟨(([] : List Int)),(t175),(t178),(t179),(t180),(by first|rfl|(simp;done)|(simp [*];done)),(by first|rfl|(simp;done)|(simp [*];done)),H',⟨Nat.le_refl _⟩,⟨by first|exact Kd.R_nil _ _ _ _ _|exact Kd.N_nil _ _ _ _ _|exact Kd.V_nil _ _ _ _ _|exact Kd.Q_nil _ _ _ _ _|exact Kd.S_nil _ _ _ _ _⟩,⟨by repeat (first|(with_reducible first|exact HI0.out|apply IsS59.alloc|apply IsS59.drewN|apply IsS59.drew|apply IsS59.set_1|apply IsS59.set_2)|exact HI0.out)⟩,⟨by repeat (first|(with_reducible first|exact HK.out|apply KeepBut.set_|apply keep_drewN|apply keep_drew|apply keep_alloc)|exact HK.out)⟩,⟨by repeat (first|(with_reducible first|exact HB.out|apply bA|apply bN|apply bD|refine bS ?_ (IsS59.ge HI0.out))|exact HB.out)⟩⟩
 case round =>
  clear H'
  try clear p2
  try clear c3
  obtain ⟨x3_1,x4_1,x5_1,x1001_1,x1002_1,rfl,rfl,HA,HK1,HO_3,HI0,HK,HB⟩:=hrel
  cases gk with
  | zero => exact absurd HA.out (by simp [spec_l6Cur_wants.l0])
  | succ k1 =>
   have H:=HA.out
   clear HA
   simp only [spec_l6Cur_wants.l0] at H
   by_cases c6 : x5_1 > 0
   ·rw [if_pos c6] at H
    have c6b0 : decide (0 < x5_1) = true:=decide_eq_true c6
    clear c6
    replace H:=Option.bind_eq_some_iff.mp H
    obtain ⟨⟨t181,t182,t183⟩,A70,H⟩:=H
    replace H : (if t181 = 0 then ((spec_l6Cur_speed.f k1 s0_0 t182 t183).bind fun bt184 => (if x3_1.length < 17592186044416 then (spec_l6Cur_wants.l0 k1 (x3_1 ++ [bt184.1]) bt184.1 (wrap64 (x5_1 - 1)) s0_0 bt184.2.1 bt184.2.2) else (none))) else (if t181 = 1 then ((spec_l6Cur_pick.f s0_0 t182 t183 60).bind fun bt190 => (if x3_1.length < 17592186044416 then (spec_l6Cur_wants.l0 k1 (x3_1 ++ [wrap64 (x4_1 + bt190.1)]) (wrap64 (x4_1 + bt190.1)) (wrap64 (x5_1 - 1)) s0_0 bt190.2.1 bt190.2.2) else (none))) else (if t181 = 2 then ((spec_l6Cur_pick.f s0_0 t182 t183 30).bind fun bt196 => (if x3_1.length < 17592186044416 then (spec_l6Cur_wants.l0 k1 (x3_1 ++ [wrap64 (x4_1 - bt196.1)]) (wrap64 (x4_1 - bt196.1)) (wrap64 (x5_1 - 1)) s0_0 bt196.2.1 bt196.2.2) else (none))) else ((spec_l6Cur_pick.f s0_0 t182 t183 12).bind fun bt202 => (if x3_1.length < 17592186044416 then (spec_l6Cur_wants.l0 k1 (x3_1 ++ [wrap64 (x4_1 + bt202.1)]) (wrap64 (x4_1 + bt202.1)) (wrap64 (x5_1 - 1)) s0_0 bt202.2.1 bt202.2.2) else (none)))))) = some (r1,r2,r3):=H
    have A7:=Am A70
    clear A70
    by_cases c8 : t181 = 0
    ·rw [if_pos c8] at H
     have c8b0 : (t181 == 0) = true:=beq_iff_eq.mpr c8
     have c8b1 : (t181 != 0) = false:=bne_eq_false_iff_eq.mpr c8
     clear c8
     replace H:=Option.bind_eq_some_iff.mp H
     obtain ⟨⟨t184,t185,t186⟩,A90,H⟩:=H
     replace H : (if x3_1.length < 17592186044416 then (spec_l6Cur_wants.l0 k1 (x3_1 ++ [t184]) t184 (wrap64 (x5_1 - 1)) s0_0 t185 t186) else (none)) = some (r1,r2,r3):=H
     have A9:=Am A90
     clear A90
     by_cases c10 : x3_1.length < 17592186044416
     ·rw [if_pos c10] at H
      have LMc10:=Am c10
      clear c10
      obtain ⟨y187,hy187⟩ : ∃ y_ : List Int,y_ = (x3_1 ++ [t184]):=⟨_,rfl⟩
      replace H : (spec_l6Cur_wants.l0 k1 y187 t184 (wrap64 (x5_1 - 1)) s0_0 t185 t186) = some (r1,r2,r3):=by first|(rw [hy187];with_reducible exact H)|(have H2_:=(Option.bind_some _ _).symm.trans H;rw [hy187];with_reducible exact H2_)|(have H2_:=(Option.bind_some _ _).symm.trans H;with_reducible exact H2_)|with_reducible exact H|(rw [hy187];exact H)|exact H
      have Ny187:=Am hy187
      clear hy187
      have H':=Am H
      clear H
      go_wp2_with (first|((with_reducible refine gate_callee (f:=31) rfl ?_);refine goesL_ (some 15) rfl rfl Try.func31 (by kernel_rfl) rfl #[.pointer (some ⟨g,0,none⟩),.int .i64 6] rfl (by (try simp only [List.map_toArray,List.map_cons,List.map_nil]);first|done|rfl|(simp only [List.length_drop,List.length_take];rfl)) ?_;(with_reducible refine (spec_l6Cur_pick.calls g s0_0 x1001_1 x1002_1 6 t181 t182 t183 w0 _ ?side1 ?side2 A7.out).mono ?_);(case side1 => repeat (first|(with_reducible first|exact HI0.out|apply IsS59.alloc|apply IsS59.drewN|apply IsS59.drew|apply IsS59.set_1|apply IsS59.set_2)|exact HI0.out));(case side2 => repeat (first|(with_reducible first|exact HB.out|apply bA|apply bN|apply bD|refine bS ?_ (IsS59.ge HI0.out))|exact HB.out));rintro e w11 ⟨rfl,hi,hb,hk⟩;refine ⟨_,rfl,?_⟩;have n0_:=Am (Kd.R_mono (Kd.R_keep (IsS59.apart (show IsS59 w0 _ g s0_0 x1001_1 x1002_1 from by repeat (first|(with_reducible first|exact HI0.out|apply IsS59.alloc|apply IsS59.drewN|apply IsS59.drew|apply IsS59.set_1|apply IsS59.set_2)|exact HI0.out)) (by (with_reducible repeat (first|apply Kd.R_alloc|apply Kd.R_drewN|apply Kd.R_drew));exact HO_3.out) (by decide)) hk (fun _ h => h.2)) (fun _ h => h.1));have n1_:=Am (KeepBut.trans (by repeat (first|(with_reducible first|exact HK.out|apply KeepBut.set_|apply keep_drewN|apply keep_drew|apply keep_alloc)|exact HK.out)) hk (.inl rfl));have n2_:=Am (hb);have n3_:=Am (hi);clear HO_3;clear HK;clear HB;clear HI0;have HO_3:=n0_;have HK:=n1_;have HB:=n2_;have HI0:=n3_;clear n0_ n1_ n2_ n3_;(try clear hb);(try clear hb2);(try clear hk);(try clear hi))|((with_reducible refine gate_callee (f:=63) rfl ?_);refine goesL_ (some 23) rfl rfl Try.func63 (by kernel_rfl) rfl #[.pointer (some ⟨g,0,none⟩)] rfl (by (try simp only [List.map_toArray,List.map_cons,List.map_nil]);first|done|rfl|(simp only [List.length_drop,List.length_take];rfl)) ?_;(with_reducible refine (spec_l6Cur_speed.calls k1 g s0_0 t182 t183 t184 t185 t186 w0 _ ?side1 ?side2 A9.out).mono ?_);(case side1 => repeat (first|(with_reducible first|exact HI0.out|apply IsS59.alloc|apply IsS59.drewN|apply IsS59.drew|apply IsS59.set_1|apply IsS59.set_2)|exact HI0.out));(case side2 => repeat (first|(with_reducible first|exact HB.out|apply bA|apply bN|apply bD|refine bS ?_ (IsS59.ge HI0.out))|exact HB.out));rintro e w12 ⟨rfl,hi,hb,hk⟩;refine ⟨_,rfl,?_⟩;have n0_:=Am (Kd.R_mono (Kd.R_keep (IsS59.apart (show IsS59 w0 _ g s0_0 t182 t183 from by repeat (first|(with_reducible first|exact HI0.out|apply IsS59.alloc|apply IsS59.drewN|apply IsS59.drew|apply IsS59.set_1|apply IsS59.set_2)|exact HI0.out)) (by (with_reducible repeat (first|apply Kd.R_alloc|apply Kd.R_drewN|apply Kd.R_drew));exact HO_3.out) (by decide)) hk (fun _ h => h.2)) (fun _ h => h.1));have n1_:=Am (KeepBut.trans (by repeat (first|(with_reducible first|exact HK.out|apply KeepBut.set_|apply keep_drewN|apply keep_drew|apply keep_alloc)|exact HK.out)) hk (.inl rfl));have n2_:=Am (hb);have n3_:=Am (hi);clear HO_3;clear HK;clear HB;clear HI0;have HO_3:=n0_;have HK:=n1_;have HB:=n2_;have HI0:=n3_;clear n0_ n1_ n2_ n3_;(try clear hb);(try clear hb2);(try clear hk);(try clear hi))|((with_reducible refine gate_builtin (b:=.append) (xs:=#[.tmp 36,.tmp 38]) rfl ?_);at_builtin;refine Kd.R_append (Kd.int .i64) w.heap.size rfl (.tmp 36) (.tmp 38) 27 3 (.int .i64 0) 8 rfl Try.underlying27 info3 rfl (by decide) (by omega) u3 x3_1 t184 [.int .i64 t184] (fun _ => True) (fun _ => False) rfl rfl ?aP (fun _ hk => hk.elim) ?aF ?aO (Below.refl _ _) ?aS ?aL ?_;(case aP => exact rfl);(case aF => exact (fun _ _ => trivial));(case aO => exact (by (with_reducible repeat (first|apply Kd.R_alloc|apply Kd.R_drewN|apply Kd.R_drew));exact HO_3.out));(case aS => exact (keep_size (w:=w) (g:=g) (row:=none) (by repeat (first|(with_reducible first|exact HK.out|apply KeepBut.set_|apply keep_drewN|apply keep_drew|apply keep_alloc)|exact HK.out))));(case aL => have:=LMc10.out;omega);intro v188 w13 ho hb hg hat;rw [← Ny187.out] at ho;have n0_:=Am (IsS59.grown (show IsS59 w0 _ g s0_0 t185 t186 from by repeat (first|(with_reducible first|exact HI0.out|apply IsS59.alloc|apply IsS59.drewN|apply IsS59.drew|apply IsS59.set_1|apply IsS59.set_2)|exact HI0.out)) hg (IsS59.own_ne HI0.out HO_3.out (by decide)));have n1_:=Am (below_weaken (by repeat (first|(with_reducible first|exact HB.out|apply bA|apply bN|apply bD|refine bS ?_ (IsS59.ge HI0.out))|exact HB.out)) HL.out hb);have n2_:=Am (KeepBut.trans (by repeat (first|(with_reducible first|exact HK.out|apply KeepBut.set_|apply keep_drewN|apply keep_drew|apply keep_alloc)|exact HK.out)) (KeepBut.of_grown hg g) (Kd.R_base2 HO_3.out));have n3_:=Am (ho);clear HI0;clear HB;clear HK;clear HO_3;have HI0:=n0_;have HB:=n1_;have HK:=n2_;have HO189:=n3_;clear n0_ n1_ n2_ n3_;clear ho hb hg hat))
      go_roundg k1
      case measure => have:=HK1.out;omega
      case rel => exact ⟨(y187),(t184),(wrap64 (x5_1 - 1)),(t185),(t186),(by first|rfl|(simp;done)|(simp [*];done)),(by first|rfl|(simp;done)|(simp [*];done)),H',⟨by have:=HK1.out;omega⟩,⟨by (with_reducible repeat (first|apply Kd.R_alloc|apply Kd.R_drewN|apply Kd.R_drew));exact HO189.out⟩,⟨by repeat (first|(with_reducible first|exact HI0.out|apply IsS59.alloc|apply IsS59.drewN|apply IsS59.drew|apply IsS59.set_1|apply IsS59.set_2)|exact HI0.out)⟩,⟨by repeat (first|(with_reducible first|exact HK.out|apply KeepBut.set_|apply keep_drewN|apply keep_drew|apply keep_alloc)|exact HK.out)⟩,⟨by repeat (first|(with_reducible first|exact HB.out|apply bA|apply bN|apply bD|refine bS ?_ (IsS59.ge HI0.out))|exact HB.out)⟩⟩
     ·rw [if_neg c10] at H
      exact absurd H (by simp)
    ·rw [if_neg c8] at H
     have c8b0 : (t181 == 0) = false:=beq_eq_false_iff_ne.mpr c8
     have c8b1 : (t181 != 0) = true:=bne_iff_ne.mpr c8
     by_cases c14 : t181 = 1
     ·rw [if_pos c14] at H
      have c14b0 : (t181 == 1) = true:=beq_iff_eq.mpr c14
      have c14b1 : (t181 != 1) = false:=bne_eq_false_iff_eq.mpr c14
      clear c14
      replace H:=Option.bind_eq_some_iff.mp H
      obtain ⟨⟨t190,t191,t192⟩,A150,H⟩:=H
      replace H : (if x3_1.length < 17592186044416 then (spec_l6Cur_wants.l0 k1 (x3_1 ++ [wrap64 (x4_1 + t190)]) (wrap64 (x4_1 + t190)) (wrap64 (x5_1 - 1)) s0_0 t191 t192) else (none)) = some (r1,r2,r3):=H
      have A15:=Am A150
      clear A150
      by_cases c16 : x3_1.length < 17592186044416
      ·rw [if_pos c16] at H
       have LMc16:=Am c16
       clear c16
       obtain ⟨y193,hy193⟩ : ∃ y_ : List Int,y_ = (x3_1 ++ [wrap64 (x4_1 + t190)]):=⟨_,rfl⟩
       replace H : (spec_l6Cur_wants.l0 k1 y193 (wrap64 (x4_1 + t190)) (wrap64 (x5_1 - 1)) s0_0 t191 t192) = some (r1,r2,r3):=by first|(rw [hy193];with_reducible exact H)|(have H2_:=(Option.bind_some _ _).symm.trans H;rw [hy193];with_reducible exact H2_)|(have H2_:=(Option.bind_some _ _).symm.trans H;with_reducible exact H2_)|with_reducible exact H|(rw [hy193];exact H)|exact H
       have Ny193:=Am hy193
       clear hy193
       have H':=Am H
       clear H
       go_wp2_with (first|((with_reducible refine gate_callee (f:=31) rfl ?_);refine goesL_ (some 15) rfl rfl Try.func31 (by kernel_rfl) rfl #[.pointer (some ⟨g,0,none⟩),.int .i64 6] rfl (by (try simp only [List.map_toArray,List.map_cons,List.map_nil]);first|done|rfl|(simp only [List.length_drop,List.length_take];rfl)) ?_;(with_reducible refine (spec_l6Cur_pick.calls g s0_0 x1001_1 x1002_1 6 t181 t182 t183 w0 _ ?side1 ?side2 A7.out).mono ?_);(case side1 => repeat (first|(with_reducible first|exact HI0.out|apply IsS59.alloc|apply IsS59.drewN|apply IsS59.drew|apply IsS59.set_1|apply IsS59.set_2)|exact HI0.out));(case side2 => repeat (first|(with_reducible first|exact HB.out|apply bA|apply bN|apply bD|refine bS ?_ (IsS59.ge HI0.out))|exact HB.out));rintro e w17 ⟨rfl,hi,hb,hk⟩;refine ⟨_,rfl,?_⟩;have n0_:=Am (Kd.R_mono (Kd.R_keep (IsS59.apart (show IsS59 w0 _ g s0_0 x1001_1 x1002_1 from by repeat (first|(with_reducible first|exact HI0.out|apply IsS59.alloc|apply IsS59.drewN|apply IsS59.drew|apply IsS59.set_1|apply IsS59.set_2)|exact HI0.out)) (by (with_reducible repeat (first|apply Kd.R_alloc|apply Kd.R_drewN|apply Kd.R_drew));exact HO_3.out) (by decide)) hk (fun _ h => h.2)) (fun _ h => h.1));have n1_:=Am (KeepBut.trans (by repeat (first|(with_reducible first|exact HK.out|apply KeepBut.set_|apply keep_drewN|apply keep_drew|apply keep_alloc)|exact HK.out)) hk (.inl rfl));have n2_:=Am (hb);have n3_:=Am (hi);clear HO_3;clear HK;clear HB;clear HI0;have HO_3:=n0_;have HK:=n1_;have HB:=n2_;have HI0:=n3_;clear n0_ n1_ n2_ n3_;(try clear hb);(try clear hb2);(try clear hk);(try clear hi))|((with_reducible refine gate_callee (f:=31) rfl ?_);refine goesL_ (some 28) rfl rfl Try.func31 (by kernel_rfl) rfl #[.pointer (some ⟨g,0,none⟩),.int .i64 60] rfl (by (try simp only [List.map_toArray,List.map_cons,List.map_nil]);first|done|rfl|(simp only [List.length_drop,List.length_take];rfl)) ?_;(with_reducible refine (spec_l6Cur_pick.calls g s0_0 t182 t183 60 t190 t191 t192 w0 _ ?side1 ?side2 A15.out).mono ?_);(case side1 => repeat (first|(with_reducible first|exact HI0.out|apply IsS59.alloc|apply IsS59.drewN|apply IsS59.drew|apply IsS59.set_1|apply IsS59.set_2)|exact HI0.out));(case side2 => repeat (first|(with_reducible first|exact HB.out|apply bA|apply bN|apply bD|refine bS ?_ (IsS59.ge HI0.out))|exact HB.out));rintro e w18 ⟨rfl,hi,hb,hk⟩;refine ⟨_,rfl,?_⟩;have n0_:=Am (Kd.R_mono (Kd.R_keep (IsS59.apart (show IsS59 w0 _ g s0_0 t182 t183 from by repeat (first|(with_reducible first|exact HI0.out|apply IsS59.alloc|apply IsS59.drewN|apply IsS59.drew|apply IsS59.set_1|apply IsS59.set_2)|exact HI0.out)) (by (with_reducible repeat (first|apply Kd.R_alloc|apply Kd.R_drewN|apply Kd.R_drew));exact HO_3.out) (by decide)) hk (fun _ h => h.2)) (fun _ h => h.1));have n1_:=Am (KeepBut.trans (by repeat (first|(with_reducible first|exact HK.out|apply KeepBut.set_|apply keep_drewN|apply keep_drew|apply keep_alloc)|exact HK.out)) hk (.inl rfl));have n2_:=Am (hb);have n3_:=Am (hi);clear HO_3;clear HK;clear HB;clear HI0;have HO_3:=n0_;have HK:=n1_;have HB:=n2_;have HI0:=n3_;clear n0_ n1_ n2_ n3_;(try clear hb);(try clear hb2);(try clear hk);(try clear hi))|((with_reducible refine gate_builtin (b:=.append) (xs:=#[.tmp 36,.tmp 38]) rfl ?_);at_builtin;refine Kd.R_append (Kd.int .i64) w.heap.size rfl (.tmp 36) (.tmp 38) 27 3 (.int .i64 0) 8 rfl Try.underlying27 info3 rfl (by decide) (by omega) u3 x3_1 (wrap64 (x4_1 + t190)) [.int .i64 (wrap64 (x4_1 + t190))] (fun _ => True) (fun _ => False) rfl rfl ?aP (fun _ hk => hk.elim) ?aF ?aO (Below.refl _ _) ?aS ?aL ?_;(case aP => exact rfl);(case aF => exact (fun _ _ => trivial));(case aO => exact (by (with_reducible repeat (first|apply Kd.R_alloc|apply Kd.R_drewN|apply Kd.R_drew));exact HO_3.out));(case aS => exact (keep_size (w:=w) (g:=g) (row:=none) (by repeat (first|(with_reducible first|exact HK.out|apply KeepBut.set_|apply keep_drewN|apply keep_drew|apply keep_alloc)|exact HK.out))));(case aL => have:=LMc16.out;omega);intro v194 w19 ho hb hg hat;rw [← Ny193.out] at ho;have n0_:=Am (IsS59.grown (show IsS59 w0 _ g s0_0 t191 t192 from by repeat (first|(with_reducible first|exact HI0.out|apply IsS59.alloc|apply IsS59.drewN|apply IsS59.drew|apply IsS59.set_1|apply IsS59.set_2)|exact HI0.out)) hg (IsS59.own_ne HI0.out HO_3.out (by decide)));have n1_:=Am (below_weaken (by repeat (first|(with_reducible first|exact HB.out|apply bA|apply bN|apply bD|refine bS ?_ (IsS59.ge HI0.out))|exact HB.out)) HL.out hb);have n2_:=Am (KeepBut.trans (by repeat (first|(with_reducible first|exact HK.out|apply KeepBut.set_|apply keep_drewN|apply keep_drew|apply keep_alloc)|exact HK.out)) (KeepBut.of_grown hg g) (Kd.R_base2 HO_3.out));have n3_:=Am (ho);clear HI0;clear HB;clear HK;clear HO_3;have HI0:=n0_;have HB:=n1_;have HK:=n2_;have HO195:=n3_;clear n0_ n1_ n2_ n3_;clear ho hb hg hat))
       go_roundg k1
       case measure => have:=HK1.out;omega
       case rel => exact ⟨(y193),(wrap64 (x4_1 + t190)),(wrap64 (x5_1 - 1)),(t191),(t192),(by first|rfl|(simp;done)|(simp [*];done)),(by first|rfl|(simp;done)|(simp [*];done)),H',⟨by have:=HK1.out;omega⟩,⟨by (with_reducible repeat (first|apply Kd.R_alloc|apply Kd.R_drewN|apply Kd.R_drew));exact HO195.out⟩,⟨by repeat (first|(with_reducible first|exact HI0.out|apply IsS59.alloc|apply IsS59.drewN|apply IsS59.drew|apply IsS59.set_1|apply IsS59.set_2)|exact HI0.out)⟩,⟨by repeat (first|(with_reducible first|exact HK.out|apply KeepBut.set_|apply keep_drewN|apply keep_drew|apply keep_alloc)|exact HK.out)⟩,⟨by repeat (first|(with_reducible first|exact HB.out|apply bA|apply bN|apply bD|refine bS ?_ (IsS59.ge HI0.out))|exact HB.out)⟩⟩
      ·rw [if_neg c16] at H
       exact absurd H (by simp)
     ·rw [if_neg c14] at H
      have c14b0 : (t181 == 1) = false:=beq_eq_false_iff_ne.mpr c14
      have c14b1 : (t181 != 1) = true:=bne_iff_ne.mpr c14
      by_cases c20 : t181 = 2
      ·rw [if_pos c20] at H
       have c20b0 : (t181 == 2) = true:=beq_iff_eq.mpr c20
       have c20b1 : (t181 != 2) = false:=bne_eq_false_iff_eq.mpr c20
       clear c20
       replace H:=Option.bind_eq_some_iff.mp H
       obtain ⟨⟨t196,t197,t198⟩,A210,H⟩:=H
       replace H : (if x3_1.length < 17592186044416 then (spec_l6Cur_wants.l0 k1 (x3_1 ++ [wrap64 (x4_1 - t196)]) (wrap64 (x4_1 - t196)) (wrap64 (x5_1 - 1)) s0_0 t197 t198) else (none)) = some (r1,r2,r3):=H
       have A21:=Am A210
       clear A210
       by_cases c22 : x3_1.length < 17592186044416
       ·rw [if_pos c22] at H
        have LMc22:=Am c22
        clear c22
        obtain ⟨y199,hy199⟩ : ∃ y_ : List Int,y_ = (x3_1 ++ [wrap64 (x4_1 - t196)]):=⟨_,rfl⟩
        replace H : (spec_l6Cur_wants.l0 k1 y199 (wrap64 (x4_1 - t196)) (wrap64 (x5_1 - 1)) s0_0 t197 t198) = some (r1,r2,r3):=by first|(rw [hy199];with_reducible exact H)|(have H2_:=(Option.bind_some _ _).symm.trans H;rw [hy199];with_reducible exact H2_)|(have H2_:=(Option.bind_some _ _).symm.trans H;with_reducible exact H2_)|with_reducible exact H|(rw [hy199];exact H)|exact H
        have Ny199:=Am hy199
        clear hy199
        have H':=Am H
        clear H
        go_wp2_with (first|((with_reducible refine gate_callee (f:=31) rfl ?_);refine goesL_ (some 15) rfl rfl Try.func31 (by kernel_rfl) rfl #[.pointer (some ⟨g,0,none⟩),.int .i64 6] rfl (by (try simp only [List.map_toArray,List.map_cons,List.map_nil]);first|done|rfl|(simp only [List.length_drop,List.length_take];rfl)) ?_;(with_reducible refine (spec_l6Cur_pick.calls g s0_0 x1001_1 x1002_1 6 t181 t182 t183 w0 _ ?side1 ?side2 A7.out).mono ?_);(case side1 => repeat (first|(with_reducible first|exact HI0.out|apply IsS59.alloc|apply IsS59.drewN|apply IsS59.drew|apply IsS59.set_1|apply IsS59.set_2)|exact HI0.out));(case side2 => repeat (first|(with_reducible first|exact HB.out|apply bA|apply bN|apply bD|refine bS ?_ (IsS59.ge HI0.out))|exact HB.out));rintro e w23 ⟨rfl,hi,hb,hk⟩;refine ⟨_,rfl,?_⟩;have n0_:=Am (Kd.R_mono (Kd.R_keep (IsS59.apart (show IsS59 w0 _ g s0_0 x1001_1 x1002_1 from by repeat (first|(with_reducible first|exact HI0.out|apply IsS59.alloc|apply IsS59.drewN|apply IsS59.drew|apply IsS59.set_1|apply IsS59.set_2)|exact HI0.out)) (by (with_reducible repeat (first|apply Kd.R_alloc|apply Kd.R_drewN|apply Kd.R_drew));exact HO_3.out) (by decide)) hk (fun _ h => h.2)) (fun _ h => h.1));have n1_:=Am (KeepBut.trans (by repeat (first|(with_reducible first|exact HK.out|apply KeepBut.set_|apply keep_drewN|apply keep_drew|apply keep_alloc)|exact HK.out)) hk (.inl rfl));have n2_:=Am (hb);have n3_:=Am (hi);clear HO_3;clear HK;clear HB;clear HI0;have HO_3:=n0_;have HK:=n1_;have HB:=n2_;have HI0:=n3_;clear n0_ n1_ n2_ n3_;(try clear hb);(try clear hb2);(try clear hk);(try clear hi))|((with_reducible refine gate_callee (f:=31) rfl ?_);refine goesL_ (some 34) rfl rfl Try.func31 (by kernel_rfl) rfl #[.pointer (some ⟨g,0,none⟩),.int .i64 30] rfl (by (try simp only [List.map_toArray,List.map_cons,List.map_nil]);first|done|rfl|(simp only [List.length_drop,List.length_take];rfl)) ?_;(with_reducible refine (spec_l6Cur_pick.calls g s0_0 t182 t183 30 t196 t197 t198 w0 _ ?side1 ?side2 A21.out).mono ?_);(case side1 => repeat (first|(with_reducible first|exact HI0.out|apply IsS59.alloc|apply IsS59.drewN|apply IsS59.drew|apply IsS59.set_1|apply IsS59.set_2)|exact HI0.out));(case side2 => repeat (first|(with_reducible first|exact HB.out|apply bA|apply bN|apply bD|refine bS ?_ (IsS59.ge HI0.out))|exact HB.out));rintro e w24 ⟨rfl,hi,hb,hk⟩;refine ⟨_,rfl,?_⟩;have n0_:=Am (Kd.R_mono (Kd.R_keep (IsS59.apart (show IsS59 w0 _ g s0_0 t182 t183 from by repeat (first|(with_reducible first|exact HI0.out|apply IsS59.alloc|apply IsS59.drewN|apply IsS59.drew|apply IsS59.set_1|apply IsS59.set_2)|exact HI0.out)) (by (with_reducible repeat (first|apply Kd.R_alloc|apply Kd.R_drewN|apply Kd.R_drew));exact HO_3.out) (by decide)) hk (fun _ h => h.2)) (fun _ h => h.1));have n1_:=Am (KeepBut.trans (by repeat (first|(with_reducible first|exact HK.out|apply KeepBut.set_|apply keep_drewN|apply keep_drew|apply keep_alloc)|exact HK.out)) hk (.inl rfl));have n2_:=Am (hb);have n3_:=Am (hi);clear HO_3;clear HK;clear HB;clear HI0;have HO_3:=n0_;have HK:=n1_;have HB:=n2_;have HI0:=n3_;clear n0_ n1_ n2_ n3_;(try clear hb);(try clear hb2);(try clear hk);(try clear hi))|((with_reducible refine gate_builtin (b:=.append) (xs:=#[.tmp 36,.tmp 38]) rfl ?_);at_builtin;refine Kd.R_append (Kd.int .i64) w.heap.size rfl (.tmp 36) (.tmp 38) 27 3 (.int .i64 0) 8 rfl Try.underlying27 info3 rfl (by decide) (by omega) u3 x3_1 (wrap64 (x4_1 - t196)) [.int .i64 (wrap64 (x4_1 - t196))] (fun _ => True) (fun _ => False) rfl rfl ?aP (fun _ hk => hk.elim) ?aF ?aO (Below.refl _ _) ?aS ?aL ?_;(case aP => exact rfl);(case aF => exact (fun _ _ => trivial));(case aO => exact (by (with_reducible repeat (first|apply Kd.R_alloc|apply Kd.R_drewN|apply Kd.R_drew));exact HO_3.out));(case aS => exact (keep_size (w:=w) (g:=g) (row:=none) (by repeat (first|(with_reducible first|exact HK.out|apply KeepBut.set_|apply keep_drewN|apply keep_drew|apply keep_alloc)|exact HK.out))));(case aL => have:=LMc22.out;omega);intro v200 w25 ho hb hg hat;rw [← Ny199.out] at ho;have n0_:=Am (IsS59.grown (show IsS59 w0 _ g s0_0 t197 t198 from by repeat (first|(with_reducible first|exact HI0.out|apply IsS59.alloc|apply IsS59.drewN|apply IsS59.drew|apply IsS59.set_1|apply IsS59.set_2)|exact HI0.out)) hg (IsS59.own_ne HI0.out HO_3.out (by decide)));have n1_:=Am (below_weaken (by repeat (first|(with_reducible first|exact HB.out|apply bA|apply bN|apply bD|refine bS ?_ (IsS59.ge HI0.out))|exact HB.out)) HL.out hb);have n2_:=Am (KeepBut.trans (by repeat (first|(with_reducible first|exact HK.out|apply KeepBut.set_|apply keep_drewN|apply keep_drew|apply keep_alloc)|exact HK.out)) (KeepBut.of_grown hg g) (Kd.R_base2 HO_3.out));have n3_:=Am (ho);clear HI0;clear HB;clear HK;clear HO_3;have HI0:=n0_;have HB:=n1_;have HK:=n2_;have HO201:=n3_;clear n0_ n1_ n2_ n3_;clear ho hb hg hat))
        go_roundg k1
        case measure => have:=HK1.out;omega
        case rel => exact ⟨(y199),(wrap64 (x4_1 - t196)),(wrap64 (x5_1 - 1)),(t197),(t198),(by first|rfl|(simp;done)|(simp [*];done)),(by first|rfl|(simp;done)|(simp [*];done)),H',⟨by have:=HK1.out;omega⟩,⟨by (with_reducible repeat (first|apply Kd.R_alloc|apply Kd.R_drewN|apply Kd.R_drew));exact HO201.out⟩,⟨by repeat (first|(with_reducible first|exact HI0.out|apply IsS59.alloc|apply IsS59.drewN|apply IsS59.drew|apply IsS59.set_1|apply IsS59.set_2)|exact HI0.out)⟩,⟨by repeat (first|(with_reducible first|exact HK.out|apply KeepBut.set_|apply keep_drewN|apply keep_drew|apply keep_alloc)|exact HK.out)⟩,⟨by repeat (first|(with_reducible first|exact HB.out|apply bA|apply bN|apply bD|refine bS ?_ (IsS59.ge HI0.out))|exact HB.out)⟩⟩
       ·rw [if_neg c22] at H
        exact absurd H (by simp)
      ·rw [if_neg c20] at H
       have c20b0 : (t181 == 2) = false:=beq_eq_false_iff_ne.mpr c20
       have c20b1 : (t181 != 2) = true:=bne_iff_ne.mpr c20
       replace H:=Option.bind_eq_some_iff.mp H
       obtain ⟨⟨t202,t203,t204⟩,A260,H⟩:=H
       replace H : (if x3_1.length < 17592186044416 then (spec_l6Cur_wants.l0 k1 (x3_1 ++ [wrap64 (x4_1 + t202)]) (wrap64 (x4_1 + t202)) (wrap64 (x5_1 - 1)) s0_0 t203 t204) else (none)) = some (r1,r2,r3):=H
       have A26:=Am A260
       clear A260
       by_cases c27 : x3_1.length < 17592186044416
       ·rw [if_pos c27] at H
        have LMc27:=Am c27
        clear c27
        obtain ⟨y205,hy205⟩ : ∃ y_ : List Int,y_ = (x3_1 ++ [wrap64 (x4_1 + t202)]):=⟨_,rfl⟩
        replace H : (spec_l6Cur_wants.l0 k1 y205 (wrap64 (x4_1 + t202)) (wrap64 (x5_1 - 1)) s0_0 t203 t204) = some (r1,r2,r3):=by first|(rw [hy205];with_reducible exact H)|(have H2_:=(Option.bind_some _ _).symm.trans H;rw [hy205];with_reducible exact H2_)|(have H2_:=(Option.bind_some _ _).symm.trans H;with_reducible exact H2_)|with_reducible exact H|(rw [hy205];exact H)|exact H
        have Ny205:=Am hy205
        clear hy205
        have H':=Am H
        clear H
        go_wp2_with (first|((with_reducible refine gate_callee (f:=31) rfl ?_);refine goesL_ (some 15) rfl rfl Try.func31 (by kernel_rfl) rfl #[.pointer (some ⟨g,0,none⟩),.int .i64 6] rfl (by (try simp only [List.map_toArray,List.map_cons,List.map_nil]);first|done|rfl|(simp only [List.length_drop,List.length_take];rfl)) ?_;(with_reducible refine (spec_l6Cur_pick.calls g s0_0 x1001_1 x1002_1 6 t181 t182 t183 w0 _ ?side1 ?side2 A7.out).mono ?_);(case side1 => repeat (first|(with_reducible first|exact HI0.out|apply IsS59.alloc|apply IsS59.drewN|apply IsS59.drew|apply IsS59.set_1|apply IsS59.set_2)|exact HI0.out));(case side2 => repeat (first|(with_reducible first|exact HB.out|apply bA|apply bN|apply bD|refine bS ?_ (IsS59.ge HI0.out))|exact HB.out));rintro e w28 ⟨rfl,hi,hb,hk⟩;refine ⟨_,rfl,?_⟩;have n0_:=Am (Kd.R_mono (Kd.R_keep (IsS59.apart (show IsS59 w0 _ g s0_0 x1001_1 x1002_1 from by repeat (first|(with_reducible first|exact HI0.out|apply IsS59.alloc|apply IsS59.drewN|apply IsS59.drew|apply IsS59.set_1|apply IsS59.set_2)|exact HI0.out)) (by (with_reducible repeat (first|apply Kd.R_alloc|apply Kd.R_drewN|apply Kd.R_drew));exact HO_3.out) (by decide)) hk (fun _ h => h.2)) (fun _ h => h.1));have n1_:=Am (KeepBut.trans (by repeat (first|(with_reducible first|exact HK.out|apply KeepBut.set_|apply keep_drewN|apply keep_drew|apply keep_alloc)|exact HK.out)) hk (.inl rfl));have n2_:=Am (hb);have n3_:=Am (hi);clear HO_3;clear HK;clear HB;clear HI0;have HO_3:=n0_;have HK:=n1_;have HB:=n2_;have HI0:=n3_;clear n0_ n1_ n2_ n3_;(try clear hb);(try clear hb2);(try clear hk);(try clear hi))|((with_reducible refine gate_callee (f:=31) rfl ?_);refine goesL_ (some 18) rfl rfl Try.func31 (by kernel_rfl) rfl #[.pointer (some ⟨g,0,none⟩),.int .i64 12] rfl (by (try simp only [List.map_toArray,List.map_cons,List.map_nil]);first|done|rfl|(simp only [List.length_drop,List.length_take];rfl)) ?_;(with_reducible refine (spec_l6Cur_pick.calls g s0_0 t182 t183 12 t202 t203 t204 w0 _ ?side1 ?side2 A26.out).mono ?_);(case side1 => repeat (first|(with_reducible first|exact HI0.out|apply IsS59.alloc|apply IsS59.drewN|apply IsS59.drew|apply IsS59.set_1|apply IsS59.set_2)|exact HI0.out));(case side2 => repeat (first|(with_reducible first|exact HB.out|apply bA|apply bN|apply bD|refine bS ?_ (IsS59.ge HI0.out))|exact HB.out));rintro e w29 ⟨rfl,hi,hb,hk⟩;refine ⟨_,rfl,?_⟩;have n0_:=Am (Kd.R_mono (Kd.R_keep (IsS59.apart (show IsS59 w0 _ g s0_0 t182 t183 from by repeat (first|(with_reducible first|exact HI0.out|apply IsS59.alloc|apply IsS59.drewN|apply IsS59.drew|apply IsS59.set_1|apply IsS59.set_2)|exact HI0.out)) (by (with_reducible repeat (first|apply Kd.R_alloc|apply Kd.R_drewN|apply Kd.R_drew));exact HO_3.out) (by decide)) hk (fun _ h => h.2)) (fun _ h => h.1));have n1_:=Am (KeepBut.trans (by repeat (first|(with_reducible first|exact HK.out|apply KeepBut.set_|apply keep_drewN|apply keep_drew|apply keep_alloc)|exact HK.out)) hk (.inl rfl));have n2_:=Am (hb);have n3_:=Am (hi);clear HO_3;clear HK;clear HB;clear HI0;have HO_3:=n0_;have HK:=n1_;have HB:=n2_;have HI0:=n3_;clear n0_ n1_ n2_ n3_;(try clear hb);(try clear hb2);(try clear hk);(try clear hi))|((with_reducible refine gate_builtin (b:=.append) (xs:=#[.tmp 36,.tmp 38]) rfl ?_);at_builtin;refine Kd.R_append (Kd.int .i64) w.heap.size rfl (.tmp 36) (.tmp 38) 27 3 (.int .i64 0) 8 rfl Try.underlying27 info3 rfl (by decide) (by omega) u3 x3_1 (wrap64 (x4_1 + t202)) [.int .i64 (wrap64 (x4_1 + t202))] (fun _ => True) (fun _ => False) rfl rfl ?aP (fun _ hk => hk.elim) ?aF ?aO (Below.refl _ _) ?aS ?aL ?_;(case aP => exact rfl);(case aF => exact (fun _ _ => trivial));(case aO => exact (by (with_reducible repeat (first|apply Kd.R_alloc|apply Kd.R_drewN|apply Kd.R_drew));exact HO_3.out));(case aS => exact (keep_size (w:=w) (g:=g) (row:=none) (by repeat (first|(with_reducible first|exact HK.out|apply KeepBut.set_|apply keep_drewN|apply keep_drew|apply keep_alloc)|exact HK.out))));(case aL => have:=LMc27.out;omega);intro v206 w30 ho hb hg hat;rw [← Ny205.out] at ho;have n0_:=Am (IsS59.grown (show IsS59 w0 _ g s0_0 t203 t204 from by repeat (first|(with_reducible first|exact HI0.out|apply IsS59.alloc|apply IsS59.drewN|apply IsS59.drew|apply IsS59.set_1|apply IsS59.set_2)|exact HI0.out)) hg (IsS59.own_ne HI0.out HO_3.out (by decide)));have n1_:=Am (below_weaken (by repeat (first|(with_reducible first|exact HB.out|apply bA|apply bN|apply bD|refine bS ?_ (IsS59.ge HI0.out))|exact HB.out)) HL.out hb);have n2_:=Am (KeepBut.trans (by repeat (first|(with_reducible first|exact HK.out|apply KeepBut.set_|apply keep_drewN|apply keep_drew|apply keep_alloc)|exact HK.out)) (KeepBut.of_grown hg g) (Kd.R_base2 HO_3.out));have n3_:=Am (ho);clear HI0;clear HB;clear HK;clear HO_3;have HI0:=n0_;have HB:=n1_;have HK:=n2_;have HO207:=n3_;clear n0_ n1_ n2_ n3_;clear ho hb hg hat))
        go_roundg k1
        case measure => have:=HK1.out;omega
        case rel => exact ⟨(y205),(wrap64 (x4_1 + t202)),(wrap64 (x5_1 - 1)),(t203),(t204),(by first|rfl|(simp;done)|(simp [*];done)),(by first|rfl|(simp;done)|(simp [*];done)),H',⟨by have:=HK1.out;omega⟩,⟨by (with_reducible repeat (first|apply Kd.R_alloc|apply Kd.R_drewN|apply Kd.R_drew));exact HO207.out⟩,⟨by repeat (first|(with_reducible first|exact HI0.out|apply IsS59.alloc|apply IsS59.drewN|apply IsS59.drew|apply IsS59.set_1|apply IsS59.set_2)|exact HI0.out)⟩,⟨by repeat (first|(with_reducible first|exact HK.out|apply KeepBut.set_|apply keep_drewN|apply keep_drew|apply keep_alloc)|exact HK.out)⟩,⟨by repeat (first|(with_reducible first|exact HB.out|apply bA|apply bN|apply bD|refine bS ?_ (IsS59.ge HI0.out))|exact HB.out)⟩⟩
       ·rw [if_neg c27] at H
        exact absurd H (by simp)
   ·rw [if_neg c6] at H
    have c6b0 : decide (0 < x5_1) = false:=decide_eq_false c6
    clear c6
    simp only [Option.some.injEq,Prod.mk.injEq] at H
    obtain ⟨rfl,rfl,rfl⟩:=H
    go_wp2
    go_ret
    exact ⟨_,by first|rfl|(simp [errW_none,errW_some] <;> rfl)|(simp [*,errW_none,errW_some] <;> rfl),by (with_reducible repeat (first|apply Kd.R_alloc|apply Kd.R_drewN|apply Kd.R_drew));exact HO_3.out,by repeat (first|(with_reducible first|exact HI0.out|apply IsS59.alloc|apply IsS59.drewN|apply IsS59.drew|apply IsS59.set_1|apply IsS59.set_2)|exact HI0.out),by repeat (first|(with_reducible first|exact HB.out|apply bA|apply bN|apply bD|refine bS ?_ (IsS59.ge HI0.out))|exact HB.out),by repeat (first|(with_reducible first|exact HK.out|apply KeepBut.set_|apply keep_drewN|apply keep_drew|apply keep_alloc)|exact HK.out)⟩

end Go.Proofs.Ytanjbdgmnecacaa.PA
