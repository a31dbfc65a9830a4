-- Written by a program of this session (wip/print/myprint.py) over the kit's print, with contracts of its own; not a text of print.sh's.
import Derived.Test.YtanjbdgmnecacaaDoorPTx0
namespace Go.Proofs.YtanjbdgmnecacaaDoor.PT
open Go.RowKit Go.Proofs.YtanjbdgmnecacaaDoorW.PrintWords Go.Proofs.YtanjbdgmnecacaaDoorW.PrintLast Go.Proofs.YtanjbdgmnecacaaDoorW.PrintMore
attribute [local go_sem] max2_int min2_int max_two min_two   -- for this text's walks alone
set_option linter.unusedVariables false
set_option linter.unusedSimpArgs false

/-! ### impl_match: function 22 -/
mutual
def impl_match.l0 : Nat → ByteArray → Int → ByteArray → List Int → Int → Option (List Int × Int × Bool)
 | 0,_,_,_,_,_ => none
 | k + 1,x0,x1,x2,x9,x10 => if x10 < (x2.size : Int) then (if 0 ≤ x10 then (if (bt x2 x10) = 35 then (impl_match.l1 k x0 x1 x2 x9 x10 0 0) else (if x1 = (x0.size : Int) then (some (x9,x1,false)) else (if 0 ≤ x1 then (if x1 < (x0.size : Int) then (if (bt x0 x1) = (bt x2 x10) then (impl_match.l0 k x0 (wrap64 (x1 + 1)) x2 x9 (wrap64 (x10 + 1))) else (some (x9,x1,false))) else (none)) else (none)))) else (none)) else (some (x9,x1,true))
def impl_match.l1 : Nat → ByteArray → Int → ByteArray → List Int → Int → Int → Int → Option (List Int × Int × Bool)
 | 0,_,_,_,_,_,_,_ => none
 | k + 1,x0,x1,x2,x9,x10,x11,x12 => if x1 < (x0.size : Int) then (if 0 ≤ x1 then (if (bt x0 x1) ≥ 48 then (if (bt x0 x1) ≤ 57 then (if x12 < 9 then (if x12 = 1 then (if x11 = 0 then (if x12 = 0 then (some (x9,x1,false)) else (if x9.length < 17592186044416 then (impl_match.l0 k x0 x1 x2 (x9 ++ [x11]) (wrap64 (x10 + 1))) else (none))) else (impl_match.l1 k x0 (wrap64 (x1 + 1)) x2 x9 x10 (wrap64 ((wrap64 (10 * x11)) + (((bt x0 x1) - 48) % 256))) (wrap64 (x12 + 1)))) else (impl_match.l1 k x0 (wrap64 (x1 + 1)) x2 x9 x10 (wrap64 ((wrap64 (10 * x11)) + (((bt x0 x1) - 48) % 256))) (wrap64 (x12 + 1)))) else (if x12 = 0 then (some (x9,x1,false)) else (if x9.length < 17592186044416 then (impl_match.l0 k x0 x1 x2 (x9 ++ [x11]) (wrap64 (x10 + 1))) else (none)))) else (if x12 = 0 then (some (x9,x1,false)) else (if x9.length < 17592186044416 then (impl_match.l0 k x0 x1 x2 (x9 ++ [x11]) (wrap64 (x10 + 1))) else (none)))) else (if x12 = 0 then (some (x9,x1,false)) else (if x9.length < 17592186044416 then (impl_match.l0 k x0 x1 x2 (x9 ++ [x11]) (wrap64 (x10 + 1))) else (none)))) else (none)) else (if x12 = 0 then (some (x9,x1,false)) else (if x9.length < 17592186044416 then (impl_match.l0 k x0 x1 x2 (x9 ++ [x11]) (wrap64 (x10 + 1))) else (none)))
end
def impl_match.f (k : Nat) (a0 : ByteArray) (a1 : Int) (a2 : ByteArray) : Option (List Int × Int × Bool):=impl_match.l0 k a0 a1 a2 ([] : List Int) 0
theorem impl_match.mono_l : ∀ k,(∀ y0 y1 y2 y3 y4,LeO (impl_match.l0 k y0 y1 y2 y3 y4) (impl_match.l0 (k + 1) y0 y1 y2 y3 y4))∧(∀ y0 y1 y2 y3 y4 y5 y6,LeO (impl_match.l1 k y0 y1 y2 y3 y4 y5 y6) (impl_match.l1 (k + 1) y0 y1 y2 y3 y4 y5 y6))
 | 0 => ⟨fun _ _ _ _ _ r h => by simp [impl_match.l0] at h,fun _ _ _ _ _ _ _ r h => by simp [impl_match.l1] at h⟩
 | k + 1 => by
  obtain ⟨ih0,ih1⟩:=impl_match.mono_l k;refine ⟨?_,?_⟩
  ·intro y0 y1 y2 y3 y4;unfold impl_match.l0
   repeat' first
   | (with_reducible exact ih0 _ _ _ _ _)
   | (with_reducible exact ih1 _ _ _ _ _ _ _)
   | (with_reducible exact LeO.refl _)
   | (with_reducible exact LeO.none _)
   | (with_reducible refine LeO.ite ?_ ?_)
   | (with_reducible refine LeO.bind ?_ (fun _ => ?_))
   | exact ih0 _ _ _ _ _
   | exact ih1 _ _ _ _ _ _ _
   | exact LeO.none _
   | refine LeO.ite ?_ ?_
   | refine LeO.bind ?_ (fun _ => ?_)
  ·intro y0 y1 y2 y3 y4 y5 y6;unfold impl_match.l1
   repeat' first
   | (with_reducible exact ih0 _ _ _ _ _)
   | (with_reducible exact ih1 _ _ _ _ _ _ _)
   | (with_reducible exact LeO.refl _)
   | (with_reducible exact LeO.none _)
   | (with_reducible refine LeO.ite ?_ ?_)
   | (with_reducible refine LeO.bind ?_ (fun _ => ?_))
   | exact ih0 _ _ _ _ _
   | exact ih1 _ _ _ _ _ _ _
   | exact LeO.none _
   | refine LeO.ite ?_ ?_
   | refine LeO.bind ?_ (fun _ => ?_)
theorem impl_match.mono : ∀ a0 a1 a2 k,LeO (impl_match.f k a0 a1 a2) (impl_match.f (k + 1) a0 a1 a2):=by
 intro a0 a1 a2 k;obtain ⟨ih0,ih1⟩:=impl_match.mono_l k;unfold impl_match.f
 repeat' first
   | (with_reducible exact ih0 _ _ _ _ _)
   | (with_reducible exact ih1 _ _ _ _ _ _ _)
   | (with_reducible exact LeO.refl _)
   | (with_reducible exact LeO.none _)
   | (with_reducible refine LeO.ite ?_ ?_)
   | (with_reducible refine LeO.bind ?_ (fun _ => ?_))
   | exact ih0 _ _ _ _ _
   | exact ih1 _ _ _ _ _ _ _
   | exact LeO.none _
   | refine LeO.ite ?_ ?_
   | refine LeO.bind ?_ (fun _ => ?_)
set_option maxHeartbeats 8000000 in
set_option maxRecDepth 100000 in
theorem impl_match.calls (k : Nat) (a0 : ByteArray) (a1 : Int) (a2 : ByteArray) (r1 : List Int) (r2 : Int) (r3 : Bool) (w : World) (h : impl_match.f k a0 a1 a2 = some (r1,r2,r3)) :
  Calls Tryd.prog 22 #[.string a0,.int .i64 a1,.string a2] w fun e w' => ∃ v0_ : Value,e = .returned (.tuple #[v0_,.int .i64 r2,.bool r3])∧Kd.R (Kd.int .i64) 3 w' w.heap.size (fun _ => True) v0_ r1∧Below w.heap.size w w':=by
 have HB:=Am (Below.refl w.heap.size w);have H : (impl_match.l0 k a0 a1 a2 ([] : List Int) 0) = some (r1,r2,r3):=h;clear h;have H':=Am H;clear H
 go_enter Tryd.func22,Tryd.ntmps22
 go_wp2
 repeat (go_quiet (fail);try go_wp2)
 go_loopg [1,9,10] k (fun kq v1 v9 v10 w' => ∃ (x1_1 : Int) (x9_1 : List Int) (x10_1 : Int),v1 = .int .i64 x1_1∧v10 = .int .i64 x10_1∧As (impl_match.l0 kq a0 x1_1 a2 x9_1 x10_1 = some (r1,r2,r3))∧As (kq ≤ k)∧As (Kd.R (Kd.int .i64) 3 w' w.heap.size (fun _ => True) v9 x9_1)∧As (Below w.heap.size w w'))
 case atStart => exact ⟨(a1),(([] : List Int)),(0),vL_,vL_,H',⟨Nat.le_refl _⟩,⟨by first|exact Kd.R_nil _ _ _ _ _|exact Kd.N_nil _ _ _ _ _|exact Kd.V_nil _ _ _ _ _|exact Kd.Q_nil _ _ _ _ _|exact Kd.S_nil _ _ _ _ _⟩,⟨bL HB⟩⟩
 case round =>
  clear H';(try clear c2);(try clear p2);obtain ⟨x1_1,x9_1,x10_1,rfl,rfl,HA,HK1,HO_9,HB⟩:=hrel
  cases gk with
  | zero => exact absurd HA.out (by simp [impl_match.l0])
  | succ k1 =>
   have H:=HA.out;clear HA;simp only [impl_match.l0] at H
   by_cases c4 : x10_1 < (a2.size : Int)
   ·rw [if_pos c4] at H;have c4b0 : decide (x10_1 < (a2.size : Int)) = true:=decide_eq_true c4;clear c4
    by_cases c5 : 0 ≤ x10_1
    ·rw [if_pos c5] at H;have c5b0 : decide (0 ≤ x10_1) = true:=decide_eq_true c5;clear c5
     by_cases c7 : (bt a2 x10_1) = 35
     ·rw [if_pos c7] at H;have c7b0 : ((bt a2 x10_1) == 35) = true:=beq_iff_eq.mpr c7;have c7b1 : ((bt a2 x10_1) != 35) = false:=bne_eq_false_iff_eq.mpr c7;clear c7;have H':=Am H;clear H;have p6 : 0 ≤ (x10_1 : Int):=of_decide_eq_true (by first|(with_reducible assumption)|assumption);have q6 : x10_1 < (a2.size : Int):=of_decide_eq_true (by first|(with_reducible assumption)|assumption);have hx6:=bt_at a2 x10_1;replace p6:=eq_true p6;replace q6:=eq_true q6;go_wp2
      repeat (go_quiet (fail);try go_wp2)
      go_loopg [1,11,12] k1 (fun kq v1 v11 v12 w' => ∃ (x1_2 : Int) (x11_2 : Int) (x12_2 : Int),v1 = .int .i64 x1_2∧v11 = .int .i64 x11_2∧v12 = .int .i64 x12_2∧As (impl_match.l1 kq a0 x1_2 a2 x9_1 x10_1 x11_2 x12_2 = some (r1,r2,r3))∧As (kq ≤ k1)∧As (Kd.R (Kd.int .i64) 3 w' w.heap.size (fun _ => True) u9 x9_1)∧As (Below w.heap.size w w'))
      case atStart => exact ⟨(x1_1),(0),(0),vL_,vL_,vL_,H',⟨Nat.le_refl _⟩,⟨by (with_reducible repeat (first|apply Kd.R_alloc|apply Kd.R_drewN|apply Kd.R_drew));exact HO_9.out⟩,⟨bL HB⟩⟩
      case round =>
       clear H';(try clear c2);(try clear p2);(try clear c4);(try clear c4b0);(try clear c5);(try clear c5b0);(try clear p6);(try clear q6);(try clear hx6);(try clear c7);(try clear c7b0);(try clear c7b1);(try clear p2);(try clear p6);(try clear q6);obtain ⟨x1_2,x11_2,x12_2,rfl,rfl,rfl,HA,HK2,HO_9,HB⟩:=hrel
       cases gk with
       | zero => exact absurd HA.out (by simp [impl_match.l1])
       | succ k2 =>
        have H:=HA.out;clear HA;simp only [impl_match.l1] at H
        by_cases c8 : x1_2 < (a0.size : Int)
        ·rw [if_pos c8] at H;have c8b0 : decide (x1_2 < (a0.size : Int)) = true:=decide_eq_true c8;clear c8
         by_cases c9 : 0 ≤ x1_2
         ·rw [if_pos c9] at H;have c9b0 : decide (0 ≤ x1_2) = true:=decide_eq_true c9;clear c9
          by_cases c11 : (bt a0 x1_2) ≥ 48
          ·rw [if_pos c11] at H;have c11b0 : decide (48 ≤ (bt a0 x1_2)) = true:=decide_eq_true c11;clear c11
           by_cases c13 : (bt a0 x1_2) ≤ 57
           ·rw [if_pos c13] at H;have c13b0 : decide ((bt a0 x1_2) ≤ 57) = true:=decide_eq_true c13;clear c13
            by_cases c14 : x12_2 < 9
            ·rw [if_pos c14] at H;have c14b0 : decide (x12_2 < 9) = true:=decide_eq_true c14;clear c14
             by_cases c15 : x12_2 = 1
             ·rw [if_pos c15] at H;have c15b0 : (x12_2 == 1) = true:=beq_iff_eq.mpr c15;have c15b1 : (x12_2 != 1) = false:=bne_eq_false_iff_eq.mpr c15;clear c15
              by_cases c16 : x11_2 = 0
              ·rw [if_pos c16] at H;have c16b0 : (x11_2 == 0) = true:=beq_iff_eq.mpr c16;have c16b1 : (x11_2 != 0) = false:=bne_eq_false_iff_eq.mpr c16;clear c16
               by_cases c17 : x12_2 = 0
               ·rw [if_pos c17] at H;have c17b0 : (x12_2 == 0) = true:=beq_iff_eq.mpr c17;have c17b1 : (x12_2 != 0) = false:=bne_eq_false_iff_eq.mpr c17;clear c17;simp only [Option.some.injEq,Prod.mk.injEq] at H;obtain ⟨rfl,rfl,rfl⟩:=H;have p10 : 0 ≤ (x1_2 : Int):=of_decide_eq_true (by first|(with_reducible assumption)|assumption);have q10 : x1_2 < (a0.size : Int):=of_decide_eq_true (by first|(with_reducible assumption)|assumption);have hx10:=bt_at a0 x1_2;replace p10:=eq_true p10;replace q10:=eq_true q10;have p12 : 0 ≤ (x1_2 : Int):=of_decide_eq_true (by first|(with_reducible assumption)|assumption);have q12 : x1_2 < (a0.size : Int):=of_decide_eq_true (by first|(with_reducible assumption)|assumption);have hx12:=bt_at a0 x1_2;replace p12:=eq_true p12;replace q12:=eq_true q12;go_wp2
                repeat (go_quiet (fail);try go_wp2)
                go_ret3
                exact ⟨_,eL_,by (with_reducible repeat (first|apply Kd.R_alloc|apply Kd.R_drewN|apply Kd.R_drew));exact HO_9.out,bL HB⟩
               ·rw [if_neg c17] at H;have c17b0 : (x12_2 == 0) = false:=beq_eq_false_iff_ne.mpr c17;have c17b1 : (x12_2 != 0) = true:=bne_iff_ne.mpr c17
                by_cases c18 : x9_1.length < 17592186044416
                ·rw [if_pos c18] at H;have LMc18:=Am c18;clear c18
                 obtain ⟨y289,hy289⟩ : ∃ y_ : List Int,y_ = (x9_1 ++ [x11_2]):=⟨_,rfl⟩
                 replace H : (impl_match.l0 k2 a0 x1_2 a2 y289 (wrap64 (x10_1 + 1))) = some (r1,r2,r3):=by first|(rw [hy289];with_reducible exact H)|(have H2_:=(Option.bind_some _ _).symm.trans H;rw [hy289];with_reducible exact H2_)|(have H2_:=(Option.bind_some _ _).symm.trans H;with_reducible exact H2_)|with_reducible exact H|(rw [hy289];exact H)|exact H
                 have Ny289:=Am hy289;clear hy289;have H':=Am H;clear H;have p10 : 0 ≤ (x1_2 : Int):=of_decide_eq_true (by first|(with_reducible assumption)|assumption);have q10 : x1_2 < (a0.size : Int):=of_decide_eq_true (by first|(with_reducible assumption)|assumption);have hx10:=bt_at a0 x1_2;replace p10:=eq_true p10;replace q10:=eq_true q10;have p12 : 0 ≤ (x1_2 : Int):=of_decide_eq_true (by first|(with_reducible assumption)|assumption);have q12 : x1_2 < (a0.size : Int):=of_decide_eq_true (by first|(with_reducible assumption)|assumption);have hx12:=bt_at a0 x1_2;replace p12:=eq_true p12;replace q12:=eq_true q12
                 go_wp2_with (first|((with_reducible refine gate_builtin (b:=.append) (xs:=#[.tmp 85,.tmp 87]) rfl ?_);at_builtin;refine Kd.R_append (Kd.int .i64) (w0:=w) w.heap.size rfl (.tmp 85) (.tmp 87) 27 3 (.int .i64 0) 8 rfl Tryd.underlying27 info3 rfl (by decide) (by omega) u9 x9_1 x11_2 [.int .i64 x11_2] (fun _ => True) (fun _ => False) rfl rfl ?aP (fun _ hk => hk.elim) ?aF ?aO ?aB ?aS ?aL ?_;(case aP => exact rfl);(case aB => exact (bL HB));(case aF => exact (fun _ _ => trivial));(case aO => exact (rL HO_9));(case aS => exact (below_size (bL HB)));(case aL => have:=LMc18.out;omega);intro v290 w19 ho hb hg hat;rw [← Ny289.out] at ho;have n0_:=Am (hb);have n1_:=Am (ho);clear HB;clear HO_9;have HB:=n0_;have HO291:=n1_;clear n0_ n1_;clear ho hb hg hat))
                 repeat (go_quiet (first|((with_reducible refine gate_builtin (b:=.append) (xs:=#[.tmp 85,.tmp 87]) rfl ?_);at_builtin;refine Kd.R_append (Kd.int .i64) (w0:=w) w.heap.size rfl (.tmp 85) (.tmp 87) 27 3 (.int .i64 0) 8 rfl Tryd.underlying27 info3 rfl (by decide) (by omega) u9 x9_1 x11_2 [.int .i64 x11_2] (fun _ => True) (fun _ => False) rfl rfl ?aP (fun _ hk => hk.elim) ?aF ?aO ?aB ?aS ?aL ?_;(case aP => exact rfl);(case aB => exact (bL HB));(case aF => exact (fun _ _ => trivial));(case aO => exact (rL HO_9));(case aS => exact (below_size (bL HB)));(case aL => have:=LMc18.out;omega);intro v290 w19 ho hb hg hat;rw [← Ny289.out] at ho;have n0_:=Am (hb);have n1_:=Am (ho);clear HB;clear HO_9;have HB:=n0_;have HO291:=n1_;clear n0_ n1_;clear ho hb hg hat));try go_wp2_with (first|((with_reducible refine gate_builtin (b:=.append) (xs:=#[.tmp 85,.tmp 87]) rfl ?_);at_builtin;refine Kd.R_append (Kd.int .i64) (w0:=w) w.heap.size rfl (.tmp 85) (.tmp 87) 27 3 (.int .i64 0) 8 rfl Tryd.underlying27 info3 rfl (by decide) (by omega) u9 x9_1 x11_2 [.int .i64 x11_2] (fun _ => True) (fun _ => False) rfl rfl ?aP (fun _ hk => hk.elim) ?aF ?aO ?aB ?aS ?aL ?_;(case aP => exact rfl);(case aB => exact (bL HB));(case aF => exact (fun _ _ => trivial));(case aO => exact (rL HO_9));(case aS => exact (below_size (bL HB)));(case aL => have:=LMc18.out;omega);intro v290 w19 ho hb hg hat;rw [← Ny289.out] at ho;have n0_:=Am (hb);have n1_:=Am (ho);clear HB;clear HO_9;have HB:=n0_;have HO291:=n1_;clear n0_ n1_;clear ho hb hg hat)))
                 go_roundg k2
                 case measure => have:=HK1.out;have:=HK2.out;omega
                 case rel => exact ⟨(x1_2),(y289),(wrap64 (x10_1 + 1)),vL_,vL_,H',⟨by have:=HK1.out;have:=HK2.out;omega⟩,⟨by (with_reducible repeat (first|apply Kd.R_alloc|apply Kd.R_drewN|apply Kd.R_drew));exact HO291.out⟩,⟨bL HB⟩⟩
                ·rw [if_neg c18] at H;exact absurd H (by simp)
              ·rw [if_neg c16] at H;have c16b0 : (x11_2 == 0) = false:=beq_eq_false_iff_ne.mpr c16;have c16b1 : (x11_2 != 0) = true:=bne_iff_ne.mpr c16;have H':=Am H;clear H;have p10 : 0 ≤ (x1_2 : Int):=of_decide_eq_true (by first|(with_reducible assumption)|assumption);have q10 : x1_2 < (a0.size : Int):=of_decide_eq_true (by first|(with_reducible assumption)|assumption);have hx10:=bt_at a0 x1_2;replace p10:=eq_true p10;replace q10:=eq_true q10;have p12 : 0 ≤ (x1_2 : Int):=of_decide_eq_true (by first|(with_reducible assumption)|assumption);have q12 : x1_2 < (a0.size : Int):=of_decide_eq_true (by first|(with_reducible assumption)|assumption);have hx12:=bt_at a0 x1_2;replace p12:=eq_true p12;replace q12:=eq_true q12;have p20 : 0 ≤ (x1_2 : Int):=of_decide_eq_true (by first|(with_reducible assumption)|assumption);have q20 : x1_2 < (a0.size : Int):=of_decide_eq_true (by first|(with_reducible assumption)|assumption);have hx20:=bt_at a0 x1_2;replace p20:=eq_true p20;replace q20:=eq_true q20;go_wp2
               repeat (go_quiet (fail);try go_wp2)
               go_roundg k2
               case measure => have:=HK1.out;have:=HK2.out;omega
               case rel => exact ⟨(wrap64 (x1_2 + 1)),(wrap64 ((wrap64 (10 * x11_2)) + (((bt a0 x1_2) - 48) % 256))),(wrap64 (x12_2 + 1)),vL_,vL_,vL_,H',⟨by have:=HK1.out;have:=HK2.out;omega⟩,⟨by (with_reducible repeat (first|apply Kd.R_alloc|apply Kd.R_drewN|apply Kd.R_drew));exact HO_9.out⟩,⟨bL HB⟩⟩
             ·rw [if_neg c15] at H;have c15b0 : (x12_2 == 1) = false:=beq_eq_false_iff_ne.mpr c15;have c15b1 : (x12_2 != 1) = true:=bne_iff_ne.mpr c15;have H':=Am H;clear H;have p10 : 0 ≤ (x1_2 : Int):=of_decide_eq_true (by first|(with_reducible assumption)|assumption);have q10 : x1_2 < (a0.size : Int):=of_decide_eq_true (by first|(with_reducible assumption)|assumption);have hx10:=bt_at a0 x1_2;replace p10:=eq_true p10;replace q10:=eq_true q10;have p12 : 0 ≤ (x1_2 : Int):=of_decide_eq_true (by first|(with_reducible assumption)|assumption);have q12 : x1_2 < (a0.size : Int):=of_decide_eq_true (by first|(with_reducible assumption)|assumption);have hx12:=bt_at a0 x1_2;replace p12:=eq_true p12;replace q12:=eq_true q12;have p21 : 0 ≤ (x1_2 : Int):=of_decide_eq_true (by first|(with_reducible assumption)|assumption);have q21 : x1_2 < (a0.size : Int):=of_decide_eq_true (by first|(with_reducible assumption)|assumption);have hx21:=bt_at a0 x1_2;replace p21:=eq_true p21;replace q21:=eq_true q21;go_wp2
              repeat (go_quiet (fail);try go_wp2)
              go_roundg k2
              case measure => have:=HK1.out;have:=HK2.out;omega
              case rel => exact ⟨(wrap64 (x1_2 + 1)),(wrap64 ((wrap64 (10 * x11_2)) + (((bt a0 x1_2) - 48) % 256))),(wrap64 (x12_2 + 1)),vL_,vL_,vL_,H',⟨by have:=HK1.out;have:=HK2.out;omega⟩,⟨by (with_reducible repeat (first|apply Kd.R_alloc|apply Kd.R_drewN|apply Kd.R_drew));exact HO_9.out⟩,⟨bL HB⟩⟩
            ·rw [if_neg c14] at H;have c14b0 : decide (x12_2 < 9) = false:=decide_eq_false c14;clear c14
             by_cases c22 : x12_2 = 0
             ·rw [if_pos c22] at H;have c22b0 : (x12_2 == 0) = true:=beq_iff_eq.mpr c22;have c22b1 : (x12_2 != 0) = false:=bne_eq_false_iff_eq.mpr c22;clear c22;simp only [Option.some.injEq,Prod.mk.injEq] at H;obtain ⟨rfl,rfl,rfl⟩:=H;have p10 : 0 ≤ (x1_2 : Int):=of_decide_eq_true (by first|(with_reducible assumption)|assumption);have q10 : x1_2 < (a0.size : Int):=of_decide_eq_true (by first|(with_reducible assumption)|assumption);have hx10:=bt_at a0 x1_2;replace p10:=eq_true p10;replace q10:=eq_true q10;have p12 : 0 ≤ (x1_2 : Int):=of_decide_eq_true (by first|(with_reducible assumption)|assumption);have q12 : x1_2 < (a0.size : Int):=of_decide_eq_true (by first|(with_reducible assumption)|assumption);have hx12:=bt_at a0 x1_2;replace p12:=eq_true p12;replace q12:=eq_true q12;go_wp2
              repeat (go_quiet (fail);try go_wp2)
              go_ret3
              exact ⟨_,eL_,by (with_reducible repeat (first|apply Kd.R_alloc|apply Kd.R_drewN|apply Kd.R_drew));exact HO_9.out,bL HB⟩
             ·rw [if_neg c22] at H;have c22b0 : (x12_2 == 0) = false:=beq_eq_false_iff_ne.mpr c22;have c22b1 : (x12_2 != 0) = true:=bne_iff_ne.mpr c22
              by_cases c23 : x9_1.length < 17592186044416
              ·rw [if_pos c23] at H;have LMc23:=Am c23;clear c23
               obtain ⟨y292,hy292⟩ : ∃ y_ : List Int,y_ = (x9_1 ++ [x11_2]):=⟨_,rfl⟩
               replace H : (impl_match.l0 k2 a0 x1_2 a2 y292 (wrap64 (x10_1 + 1))) = some (r1,r2,r3):=by first|(rw [hy292];with_reducible exact H)|(have H2_:=(Option.bind_some _ _).symm.trans H;rw [hy292];with_reducible exact H2_)|(have H2_:=(Option.bind_some _ _).symm.trans H;with_reducible exact H2_)|with_reducible exact H|(rw [hy292];exact H)|exact H
               have Ny292:=Am hy292;clear hy292;have H':=Am H;clear H;have p10 : 0 ≤ (x1_2 : Int):=of_decide_eq_true (by first|(with_reducible assumption)|assumption);have q10 : x1_2 < (a0.size : Int):=of_decide_eq_true (by first|(with_reducible assumption)|assumption);have hx10:=bt_at a0 x1_2;replace p10:=eq_true p10;replace q10:=eq_true q10;have p12 : 0 ≤ (x1_2 : Int):=of_decide_eq_true (by first|(with_reducible assumption)|assumption);have q12 : x1_2 < (a0.size : Int):=of_decide_eq_true (by first|(with_reducible assumption)|assumption);have hx12:=bt_at a0 x1_2;replace p12:=eq_true p12;replace q12:=eq_true q12
               go_wp2_with (first|((with_reducible refine gate_builtin (b:=.append) (xs:=#[.tmp 85,.tmp 87]) rfl ?_);at_builtin;refine Kd.R_append (Kd.int .i64) (w0:=w) w.heap.size rfl (.tmp 85) (.tmp 87) 27 3 (.int .i64 0) 8 rfl Tryd.underlying27 info3 rfl (by decide) (by omega) u9 x9_1 x11_2 [.int .i64 x11_2] (fun _ => True) (fun _ => False) rfl rfl ?aP (fun _ hk => hk.elim) ?aF ?aO ?aB ?aS ?aL ?_;(case aP => exact rfl);(case aB => exact (bL HB));(case aF => exact (fun _ _ => trivial));(case aO => exact (rL HO_9));(case aS => exact (below_size (bL HB)));(case aL => have:=LMc23.out;omega);intro v293 w24 ho hb hg hat;rw [← Ny292.out] at ho;have n0_:=Am (hb);have n1_:=Am (ho);clear HB;clear HO_9;have HB:=n0_;have HO294:=n1_;clear n0_ n1_;clear ho hb hg hat))
               repeat (go_quiet (first|((with_reducible refine gate_builtin (b:=.append) (xs:=#[.tmp 85,.tmp 87]) rfl ?_);at_builtin;refine Kd.R_append (Kd.int .i64) (w0:=w) w.heap.size rfl (.tmp 85) (.tmp 87) 27 3 (.int .i64 0) 8 rfl Tryd.underlying27 info3 rfl (by decide) (by omega) u9 x9_1 x11_2 [.int .i64 x11_2] (fun _ => True) (fun _ => False) rfl rfl ?aP (fun _ hk => hk.elim) ?aF ?aO ?aB ?aS ?aL ?_;(case aP => exact rfl);(case aB => exact (bL HB));(case aF => exact (fun _ _ => trivial));(case aO => exact (rL HO_9));(case aS => exact (below_size (bL HB)));(case aL => have:=LMc23.out;omega);intro v293 w24 ho hb hg hat;rw [← Ny292.out] at ho;have n0_:=Am (hb);have n1_:=Am (ho);clear HB;clear HO_9;have HB:=n0_;have HO294:=n1_;clear n0_ n1_;clear ho hb hg hat));try go_wp2_with (first|((with_reducible refine gate_builtin (b:=.append) (xs:=#[.tmp 85,.tmp 87]) rfl ?_);at_builtin;refine Kd.R_append (Kd.int .i64) (w0:=w) w.heap.size rfl (.tmp 85) (.tmp 87) 27 3 (.int .i64 0) 8 rfl Tryd.underlying27 info3 rfl (by decide) (by omega) u9 x9_1 x11_2 [.int .i64 x11_2] (fun _ => True) (fun _ => False) rfl rfl ?aP (fun _ hk => hk.elim) ?aF ?aO ?aB ?aS ?aL ?_;(case aP => exact rfl);(case aB => exact (bL HB));(case aF => exact (fun _ _ => trivial));(case aO => exact (rL HO_9));(case aS => exact (below_size (bL HB)));(case aL => have:=LMc23.out;omega);intro v293 w24 ho hb hg hat;rw [← Ny292.out] at ho;have n0_:=Am (hb);have n1_:=Am (ho);clear HB;clear HO_9;have HB:=n0_;have HO294:=n1_;clear n0_ n1_;clear ho hb hg hat)))
               go_roundg k2
               case measure => have:=HK1.out;have:=HK2.out;omega
               case rel => exact ⟨(x1_2),(y292),(wrap64 (x10_1 + 1)),vL_,vL_,H',⟨by have:=HK1.out;have:=HK2.out;omega⟩,⟨by (with_reducible repeat (first|apply Kd.R_alloc|apply Kd.R_drewN|apply Kd.R_drew));exact HO294.out⟩,⟨bL HB⟩⟩
              ·rw [if_neg c23] at H;exact absurd H (by simp)
           ·rw [if_neg c13] at H;have c13b0 : decide ((bt a0 x1_2) ≤ 57) = false:=decide_eq_false c13;clear c13
            by_cases c25 : x12_2 = 0
            ·rw [if_pos c25] at H;have c25b0 : (x12_2 == 0) = true:=beq_iff_eq.mpr c25;have c25b1 : (x12_2 != 0) = false:=bne_eq_false_iff_eq.mpr c25;clear c25;simp only [Option.some.injEq,Prod.mk.injEq] at H;obtain ⟨rfl,rfl,rfl⟩:=H;have p10 : 0 ≤ (x1_2 : Int):=of_decide_eq_true (by first|(with_reducible assumption)|assumption);have q10 : x1_2 < (a0.size : Int):=of_decide_eq_true (by first|(with_reducible assumption)|assumption);have hx10:=bt_at a0 x1_2;replace p10:=eq_true p10;replace q10:=eq_true q10;have p12 : 0 ≤ (x1_2 : Int):=of_decide_eq_true (by first|(with_reducible assumption)|assumption);have q12 : x1_2 < (a0.size : Int):=of_decide_eq_true (by first|(with_reducible assumption)|assumption);have hx12:=bt_at a0 x1_2;replace p12:=eq_true p12;replace q12:=eq_true q12;go_wp2
             repeat (go_quiet (fail);try go_wp2)
             go_ret3
             exact ⟨_,eL_,by (with_reducible repeat (first|apply Kd.R_alloc|apply Kd.R_drewN|apply Kd.R_drew));exact HO_9.out,bL HB⟩
            ·rw [if_neg c25] at H;have c25b0 : (x12_2 == 0) = false:=beq_eq_false_iff_ne.mpr c25;have c25b1 : (x12_2 != 0) = true:=bne_iff_ne.mpr c25
             by_cases c26 : x9_1.length < 17592186044416
             ·rw [if_pos c26] at H;have LMc26:=Am c26;clear c26
              obtain ⟨y295,hy295⟩ : ∃ y_ : List Int,y_ = (x9_1 ++ [x11_2]):=⟨_,rfl⟩
              replace H : (impl_match.l0 k2 a0 x1_2 a2 y295 (wrap64 (x10_1 + 1))) = some (r1,r2,r3):=by first|(rw [hy295];with_reducible exact H)|(have H2_:=(Option.bind_some _ _).symm.trans H;rw [hy295];with_reducible exact H2_)|(have H2_:=(Option.bind_some _ _).symm.trans H;with_reducible exact H2_)|with_reducible exact H|(rw [hy295];exact H)|exact H
              have Ny295:=Am hy295;clear hy295;have H':=Am H;clear H;have p10 : 0 ≤ (x1_2 : Int):=of_decide_eq_true (by first|(with_reducible assumption)|assumption);have q10 : x1_2 < (a0.size : Int):=of_decide_eq_true (by first|(with_reducible assumption)|assumption);have hx10:=bt_at a0 x1_2;replace p10:=eq_true p10;replace q10:=eq_true q10;have p12 : 0 ≤ (x1_2 : Int):=of_decide_eq_true (by first|(with_reducible assumption)|assumption);have q12 : x1_2 < (a0.size : Int):=of_decide_eq_true (by first|(with_reducible assumption)|assumption);have hx12:=bt_at a0 x1_2;replace p12:=eq_true p12;replace q12:=eq_true q12
              go_wp2_with (first|((with_reducible refine gate_builtin (b:=.append) (xs:=#[.tmp 85,.tmp 87]) rfl ?_);at_builtin;refine Kd.R_append (Kd.int .i64) (w0:=w) w.heap.size rfl (.tmp 85) (.tmp 87) 27 3 (.int .i64 0) 8 rfl Tryd.underlying27 info3 rfl (by decide) (by omega) u9 x9_1 x11_2 [.int .i64 x11_2] (fun _ => True) (fun _ => False) rfl rfl ?aP (fun _ hk => hk.elim) ?aF ?aO ?aB ?aS ?aL ?_;(case aP => exact rfl);(case aB => exact (bL HB));(case aF => exact (fun _ _ => trivial));(case aO => exact (rL HO_9));(case aS => exact (below_size (bL HB)));(case aL => have:=LMc26.out;omega);intro v296 w27 ho hb hg hat;rw [← Ny295.out] at ho;have n0_:=Am (hb);have n1_:=Am (ho);clear HB;clear HO_9;have HB:=n0_;have HO297:=n1_;clear n0_ n1_;clear ho hb hg hat))
              repeat (go_quiet (first|((with_reducible refine gate_builtin (b:=.append) (xs:=#[.tmp 85,.tmp 87]) rfl ?_);at_builtin;refine Kd.R_append (Kd.int .i64) (w0:=w) w.heap.size rfl (.tmp 85) (.tmp 87) 27 3 (.int .i64 0) 8 rfl Tryd.underlying27 info3 rfl (by decide) (by omega) u9 x9_1 x11_2 [.int .i64 x11_2] (fun _ => True) (fun _ => False) rfl rfl ?aP (fun _ hk => hk.elim) ?aF ?aO ?aB ?aS ?aL ?_;(case aP => exact rfl);(case aB => exact (bL HB));(case aF => exact (fun _ _ => trivial));(case aO => exact (rL HO_9));(case aS => exact (below_size (bL HB)));(case aL => have:=LMc26.out;omega);intro v296 w27 ho hb hg hat;rw [← Ny295.out] at ho;have n0_:=Am (hb);have n1_:=Am (ho);clear HB;clear HO_9;have HB:=n0_;have HO297:=n1_;clear n0_ n1_;clear ho hb hg hat));try go_wp2_with (first|((with_reducible refine gate_builtin (b:=.append) (xs:=#[.tmp 85,.tmp 87]) rfl ?_);at_builtin;refine Kd.R_append (Kd.int .i64) (w0:=w) w.heap.size rfl (.tmp 85) (.tmp 87) 27 3 (.int .i64 0) 8 rfl Tryd.underlying27 info3 rfl (by decide) (by omega) u9 x9_1 x11_2 [.int .i64 x11_2] (fun _ => True) (fun _ => False) rfl rfl ?aP (fun _ hk => hk.elim) ?aF ?aO ?aB ?aS ?aL ?_;(case aP => exact rfl);(case aB => exact (bL HB));(case aF => exact (fun _ _ => trivial));(case aO => exact (rL HO_9));(case aS => exact (below_size (bL HB)));(case aL => have:=LMc26.out;omega);intro v296 w27 ho hb hg hat;rw [← Ny295.out] at ho;have n0_:=Am (hb);have n1_:=Am (ho);clear HB;clear HO_9;have HB:=n0_;have HO297:=n1_;clear n0_ n1_;clear ho hb hg hat)))
              go_roundg k2
              case measure => have:=HK1.out;have:=HK2.out;omega
              case rel => exact ⟨(x1_2),(y295),(wrap64 (x10_1 + 1)),vL_,vL_,H',⟨by have:=HK1.out;have:=HK2.out;omega⟩,⟨by (with_reducible repeat (first|apply Kd.R_alloc|apply Kd.R_drewN|apply Kd.R_drew));exact HO297.out⟩,⟨bL HB⟩⟩
             ·rw [if_neg c26] at H;exact absurd H (by simp)
          ·rw [if_neg c11] at H;have c11b0 : decide (48 ≤ (bt a0 x1_2)) = false:=decide_eq_false c11;clear c11
           by_cases c28 : x12_2 = 0
           ·rw [if_pos c28] at H;have c28b0 : (x12_2 == 0) = true:=beq_iff_eq.mpr c28;have c28b1 : (x12_2 != 0) = false:=bne_eq_false_iff_eq.mpr c28;clear c28;simp only [Option.some.injEq,Prod.mk.injEq] at H;obtain ⟨rfl,rfl,rfl⟩:=H;have p10 : 0 ≤ (x1_2 : Int):=of_decide_eq_true (by first|(with_reducible assumption)|assumption);have q10 : x1_2 < (a0.size : Int):=of_decide_eq_true (by first|(with_reducible assumption)|assumption);have hx10:=bt_at a0 x1_2;replace p10:=eq_true p10;replace q10:=eq_true q10;go_wp2
            repeat (go_quiet (fail);try go_wp2)
            go_ret3
            exact ⟨_,eL_,by (with_reducible repeat (first|apply Kd.R_alloc|apply Kd.R_drewN|apply Kd.R_drew));exact HO_9.out,bL HB⟩
           ·rw [if_neg c28] at H;have c28b0 : (x12_2 == 0) = false:=beq_eq_false_iff_ne.mpr c28;have c28b1 : (x12_2 != 0) = true:=bne_iff_ne.mpr c28
            by_cases c29 : x9_1.length < 17592186044416
            ·rw [if_pos c29] at H;have LMc29:=Am c29;clear c29
             obtain ⟨y298,hy298⟩ : ∃ y_ : List Int,y_ = (x9_1 ++ [x11_2]):=⟨_,rfl⟩
             replace H : (impl_match.l0 k2 a0 x1_2 a2 y298 (wrap64 (x10_1 + 1))) = some (r1,r2,r3):=by first|(rw [hy298];with_reducible exact H)|(have H2_:=(Option.bind_some _ _).symm.trans H;rw [hy298];with_reducible exact H2_)|(have H2_:=(Option.bind_some _ _).symm.trans H;with_reducible exact H2_)|with_reducible exact H|(rw [hy298];exact H)|exact H
             have Ny298:=Am hy298;clear hy298;have H':=Am H;clear H;have p10 : 0 ≤ (x1_2 : Int):=of_decide_eq_true (by first|(with_reducible assumption)|assumption);have q10 : x1_2 < (a0.size : Int):=of_decide_eq_true (by first|(with_reducible assumption)|assumption);have hx10:=bt_at a0 x1_2;replace p10:=eq_true p10;replace q10:=eq_true q10
             go_wp2_with (first|((with_reducible refine gate_builtin (b:=.append) (xs:=#[.tmp 85,.tmp 87]) rfl ?_);at_builtin;refine Kd.R_append (Kd.int .i64) (w0:=w) w.heap.size rfl (.tmp 85) (.tmp 87) 27 3 (.int .i64 0) 8 rfl Tryd.underlying27 info3 rfl (by decide) (by omega) u9 x9_1 x11_2 [.int .i64 x11_2] (fun _ => True) (fun _ => False) rfl rfl ?aP (fun _ hk => hk.elim) ?aF ?aO ?aB ?aS ?aL ?_;(case aP => exact rfl);(case aB => exact (bL HB));(case aF => exact (fun _ _ => trivial));(case aO => exact (rL HO_9));(case aS => exact (below_size (bL HB)));(case aL => have:=LMc29.out;omega);intro v299 w30 ho hb hg hat;rw [← Ny298.out] at ho;have n0_:=Am (hb);have n1_:=Am (ho);clear HB;clear HO_9;have HB:=n0_;have HO300:=n1_;clear n0_ n1_;clear ho hb hg hat))
             repeat (go_quiet (first|((with_reducible refine gate_builtin (b:=.append) (xs:=#[.tmp 85,.tmp 87]) rfl ?_);at_builtin;refine Kd.R_append (Kd.int .i64) (w0:=w) w.heap.size rfl (.tmp 85) (.tmp 87) 27 3 (.int .i64 0) 8 rfl Tryd.underlying27 info3 rfl (by decide) (by omega) u9 x9_1 x11_2 [.int .i64 x11_2] (fun _ => True) (fun _ => False) rfl rfl ?aP (fun _ hk => hk.elim) ?aF ?aO ?aB ?aS ?aL ?_;(case aP => exact rfl);(case aB => exact (bL HB));(case aF => exact (fun _ _ => trivial));(case aO => exact (rL HO_9));(case aS => exact (below_size (bL HB)));(case aL => have:=LMc29.out;omega);intro v299 w30 ho hb hg hat;rw [← Ny298.out] at ho;have n0_:=Am (hb);have n1_:=Am (ho);clear HB;clear HO_9;have HB:=n0_;have HO300:=n1_;clear n0_ n1_;clear ho hb hg hat));try go_wp2_with (first|((with_reducible refine gate_builtin (b:=.append) (xs:=#[.tmp 85,.tmp 87]) rfl ?_);at_builtin;refine Kd.R_append (Kd.int .i64) (w0:=w) w.heap.size rfl (.tmp 85) (.tmp 87) 27 3 (.int .i64 0) 8 rfl Tryd.underlying27 info3 rfl (by decide) (by omega) u9 x9_1 x11_2 [.int .i64 x11_2] (fun _ => True) (fun _ => False) rfl rfl ?aP (fun _ hk => hk.elim) ?aF ?aO ?aB ?aS ?aL ?_;(case aP => exact rfl);(case aB => exact (bL HB));(case aF => exact (fun _ _ => trivial));(case aO => exact (rL HO_9));(case aS => exact (below_size (bL HB)));(case aL => have:=LMc29.out;omega);intro v299 w30 ho hb hg hat;rw [← Ny298.out] at ho;have n0_:=Am (hb);have n1_:=Am (ho);clear HB;clear HO_9;have HB:=n0_;have HO300:=n1_;clear n0_ n1_;clear ho hb hg hat)))
             go_roundg k2
             case measure => have:=HK1.out;have:=HK2.out;omega
             case rel => exact ⟨(x1_2),(y298),(wrap64 (x10_1 + 1)),vL_,vL_,H',⟨by have:=HK1.out;have:=HK2.out;omega⟩,⟨by (with_reducible repeat (first|apply Kd.R_alloc|apply Kd.R_drewN|apply Kd.R_drew));exact HO300.out⟩,⟨bL HB⟩⟩
            ·rw [if_neg c29] at H;exact absurd H (by simp)
         ·rw [if_neg c9] at H;exact absurd H (by simp)
        ·rw [if_neg c8] at H;have c8b0 : decide (x1_2 < (a0.size : Int)) = false:=decide_eq_false c8;clear c8
         by_cases c31 : x12_2 = 0
         ·rw [if_pos c31] at H;have c31b0 : (x12_2 == 0) = true:=beq_iff_eq.mpr c31;have c31b1 : (x12_2 != 0) = false:=bne_eq_false_iff_eq.mpr c31;clear c31;simp only [Option.some.injEq,Prod.mk.injEq] at H;obtain ⟨rfl,rfl,rfl⟩:=H;go_wp2
          repeat (go_quiet (fail);try go_wp2)
          go_ret3
          exact ⟨_,eL_,by (with_reducible repeat (first|apply Kd.R_alloc|apply Kd.R_drewN|apply Kd.R_drew));exact HO_9.out,bL HB⟩
         ·rw [if_neg c31] at H;have c31b0 : (x12_2 == 0) = false:=beq_eq_false_iff_ne.mpr c31;have c31b1 : (x12_2 != 0) = true:=bne_iff_ne.mpr c31
          by_cases c32 : x9_1.length < 17592186044416
          ·rw [if_pos c32] at H;have LMc32:=Am c32;clear c32
           obtain ⟨y301,hy301⟩ : ∃ y_ : List Int,y_ = (x9_1 ++ [x11_2]):=⟨_,rfl⟩
           replace H : (impl_match.l0 k2 a0 x1_2 a2 y301 (wrap64 (x10_1 + 1))) = some (r1,r2,r3):=by first|(rw [hy301];with_reducible exact H)|(have H2_:=(Option.bind_some _ _).symm.trans H;rw [hy301];with_reducible exact H2_)|(have H2_:=(Option.bind_some _ _).symm.trans H;with_reducible exact H2_)|with_reducible exact H|(rw [hy301];exact H)|exact H
           have Ny301:=Am hy301;clear hy301;have H':=Am H;clear H
           go_wp2_with (first|((with_reducible refine gate_builtin (b:=.append) (xs:=#[.tmp 85,.tmp 87]) rfl ?_);at_builtin;refine Kd.R_append (Kd.int .i64) (w0:=w) w.heap.size rfl (.tmp 85) (.tmp 87) 27 3 (.int .i64 0) 8 rfl Tryd.underlying27 info3 rfl (by decide) (by omega) u9 x9_1 x11_2 [.int .i64 x11_2] (fun _ => True) (fun _ => False) rfl rfl ?aP (fun _ hk => hk.elim) ?aF ?aO ?aB ?aS ?aL ?_;(case aP => exact rfl);(case aB => exact (bL HB));(case aF => exact (fun _ _ => trivial));(case aO => exact (rL HO_9));(case aS => exact (below_size (bL HB)));(case aL => have:=LMc32.out;omega);intro v302 w33 ho hb hg hat;rw [← Ny301.out] at ho;have n0_:=Am (hb);have n1_:=Am (ho);clear HB;clear HO_9;have HB:=n0_;have HO303:=n1_;clear n0_ n1_;clear ho hb hg hat))
           repeat (go_quiet (first|((with_reducible refine gate_builtin (b:=.append) (xs:=#[.tmp 85,.tmp 87]) rfl ?_);at_builtin;refine Kd.R_append (Kd.int .i64) (w0:=w) w.heap.size rfl (.tmp 85) (.tmp 87) 27 3 (.int .i64 0) 8 rfl Tryd.underlying27 info3 rfl (by decide) (by omega) u9 x9_1 x11_2 [.int .i64 x11_2] (fun _ => True) (fun _ => False) rfl rfl ?aP (fun _ hk => hk.elim) ?aF ?aO ?aB ?aS ?aL ?_;(case aP => exact rfl);(case aB => exact (bL HB));(case aF => exact (fun _ _ => trivial));(case aO => exact (rL HO_9));(case aS => exact (below_size (bL HB)));(case aL => have:=LMc32.out;omega);intro v302 w33 ho hb hg hat;rw [← Ny301.out] at ho;have n0_:=Am (hb);have n1_:=Am (ho);clear HB;clear HO_9;have HB:=n0_;have HO303:=n1_;clear n0_ n1_;clear ho hb hg hat));try go_wp2_with (first|((with_reducible refine gate_builtin (b:=.append) (xs:=#[.tmp 85,.tmp 87]) rfl ?_);at_builtin;refine Kd.R_append (Kd.int .i64) (w0:=w) w.heap.size rfl (.tmp 85) (.tmp 87) 27 3 (.int .i64 0) 8 rfl Tryd.underlying27 info3 rfl (by decide) (by omega) u9 x9_1 x11_2 [.int .i64 x11_2] (fun _ => True) (fun _ => False) rfl rfl ?aP (fun _ hk => hk.elim) ?aF ?aO ?aB ?aS ?aL ?_;(case aP => exact rfl);(case aB => exact (bL HB));(case aF => exact (fun _ _ => trivial));(case aO => exact (rL HO_9));(case aS => exact (below_size (bL HB)));(case aL => have:=LMc32.out;omega);intro v302 w33 ho hb hg hat;rw [← Ny301.out] at ho;have n0_:=Am (hb);have n1_:=Am (ho);clear HB;clear HO_9;have HB:=n0_;have HO303:=n1_;clear n0_ n1_;clear ho hb hg hat)))
           go_roundg k2
           case measure => have:=HK1.out;have:=HK2.out;omega
           case rel => exact ⟨(x1_2),(y301),(wrap64 (x10_1 + 1)),vL_,vL_,H',⟨by have:=HK1.out;have:=HK2.out;omega⟩,⟨by (with_reducible repeat (first|apply Kd.R_alloc|apply Kd.R_drewN|apply Kd.R_drew));exact HO303.out⟩,⟨bL HB⟩⟩
          ·rw [if_neg c32] at H;exact absurd H (by simp)
     ·rw [if_neg c7] at H;have c7b0 : ((bt a2 x10_1) == 35) = false:=beq_eq_false_iff_ne.mpr c7;have c7b1 : ((bt a2 x10_1) != 35) = true:=bne_iff_ne.mpr c7
      by_cases c34 : x1_1 = (a0.size : Int)
      ·rw [if_pos c34] at H;have c34b0 : (x1_1 == (a0.size : Int)) = true:=beq_iff_eq.mpr c34;have c34b1 : (x1_1 != (a0.size : Int)) = false:=bne_eq_false_iff_eq.mpr c34;clear c34;simp only [Option.some.injEq,Prod.mk.injEq] at H;obtain ⟨rfl,rfl,rfl⟩:=H;have p6 : 0 ≤ (x10_1 : Int):=of_decide_eq_true (by first|(with_reducible assumption)|assumption);have q6 : x10_1 < (a2.size : Int):=of_decide_eq_true (by first|(with_reducible assumption)|assumption);have hx6:=bt_at a2 x10_1;replace p6:=eq_true p6;replace q6:=eq_true q6;go_wp2
       repeat (go_quiet (fail);try go_wp2)
       go_ret3
       exact ⟨_,eL_,by (with_reducible repeat (first|apply Kd.R_alloc|apply Kd.R_drewN|apply Kd.R_drew));exact HO_9.out,bL HB⟩
      ·rw [if_neg c34] at H;have c34b0 : (x1_1 == (a0.size : Int)) = false:=beq_eq_false_iff_ne.mpr c34;have c34b1 : (x1_1 != (a0.size : Int)) = true:=bne_iff_ne.mpr c34
       by_cases c35 : 0 ≤ x1_1
       ·rw [if_pos c35] at H;have c35b0 : decide (0 ≤ x1_1) = true:=decide_eq_true c35;clear c35
        by_cases c36 : x1_1 < (a0.size : Int)
        ·rw [if_pos c36] at H;have c36b0 : decide (x1_1 < (a0.size : Int)) = true:=decide_eq_true c36;clear c36
         by_cases c39 : (bt a0 x1_1) = (bt a2 x10_1)
         ·rw [if_pos c39] at H;have c39b0 : ((bt a0 x1_1) == (bt a2 x10_1)) = true:=beq_iff_eq.mpr c39;have c39b1 : ((bt a0 x1_1) != (bt a2 x10_1)) = false:=bne_eq_false_iff_eq.mpr c39;clear c39;have H':=Am H;clear H;have p6 : 0 ≤ (x10_1 : Int):=of_decide_eq_true (by first|(with_reducible assumption)|assumption);have q6 : x10_1 < (a2.size : Int):=of_decide_eq_true (by first|(with_reducible assumption)|assumption);have hx6:=bt_at a2 x10_1;replace p6:=eq_true p6;replace q6:=eq_true q6;have p37 : 0 ≤ (x1_1 : Int):=of_decide_eq_true (by first|(with_reducible assumption)|assumption);have q37 : x1_1 < (a0.size : Int):=of_decide_eq_true (by first|(with_reducible assumption)|assumption);have hx37:=bt_at a0 x1_1;replace p37:=eq_true p37;replace q37:=eq_true q37;have p38 : 0 ≤ (x10_1 : Int):=of_decide_eq_true (by first|(with_reducible assumption)|assumption);have q38 : x10_1 < (a2.size : Int):=of_decide_eq_true (by first|(with_reducible assumption)|assumption);have hx38:=bt_at a2 x10_1;replace p38:=eq_true p38;replace q38:=eq_true q38;go_wp2
          repeat (go_quiet (fail);try go_wp2)
          go_roundg k1
          case measure => have:=HK1.out;omega
          case rel => exact ⟨(wrap64 (x1_1 + 1)),(x9_1),(wrap64 (x10_1 + 1)),vL_,vL_,H',⟨by have:=HK1.out;omega⟩,⟨by (with_reducible repeat (first|apply Kd.R_alloc|apply Kd.R_drewN|apply Kd.R_drew));exact HO_9.out⟩,⟨bL HB⟩⟩
         ·rw [if_neg c39] at H;have c39b0 : ((bt a0 x1_1) == (bt a2 x10_1)) = false:=beq_eq_false_iff_ne.mpr c39;have c39b1 : ((bt a0 x1_1) != (bt a2 x10_1)) = true:=bne_iff_ne.mpr c39;simp only [Option.some.injEq,Prod.mk.injEq] at H;obtain ⟨rfl,rfl,rfl⟩:=H;have p6 : 0 ≤ (x10_1 : Int):=of_decide_eq_true (by first|(with_reducible assumption)|assumption);have q6 : x10_1 < (a2.size : Int):=of_decide_eq_true (by first|(with_reducible assumption)|assumption);have hx6:=bt_at a2 x10_1;replace p6:=eq_true p6;replace q6:=eq_true q6;have p37 : 0 ≤ (x1_1 : Int):=of_decide_eq_true (by first|(with_reducible assumption)|assumption);have q37 : x1_1 < (a0.size : Int):=of_decide_eq_true (by first|(with_reducible assumption)|assumption);have hx37:=bt_at a0 x1_1;replace p37:=eq_true p37;replace q37:=eq_true q37;have p38 : 0 ≤ (x10_1 : Int):=of_decide_eq_true (by first|(with_reducible assumption)|assumption);have q38 : x10_1 < (a2.size : Int):=of_decide_eq_true (by first|(with_reducible assumption)|assumption);have hx38:=bt_at a2 x10_1;replace p38:=eq_true p38;replace q38:=eq_true q38;go_wp2
          repeat (go_quiet (fail);try go_wp2)
          go_ret3
          exact ⟨_,eL_,by (with_reducible repeat (first|apply Kd.R_alloc|apply Kd.R_drewN|apply Kd.R_drew));exact HO_9.out,bL HB⟩
        ·rw [if_neg c36] at H;exact absurd H (by simp)
       ·rw [if_neg c35] at H;exact absurd H (by simp)
    ·rw [if_neg c5] at H;exact absurd H (by simp)
   ·rw [if_neg c4] at H;have c4b0 : decide (x10_1 < (a2.size : Int)) = false:=decide_eq_false c4;clear c4;simp only [Option.some.injEq,Prod.mk.injEq] at H;obtain ⟨rfl,rfl,rfl⟩:=H;go_wp2
    repeat (go_quiet (fail);try go_wp2)
    go_ret3
    exact ⟨_,eL_,by (with_reducible repeat (first|apply Kd.R_alloc|apply Kd.R_drewN|apply Kd.R_drew));exact HO_9.out,bL HB⟩

end Go.Proofs.YtanjbdgmnecacaaDoor.PT
