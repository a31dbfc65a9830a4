-- Written by a program of this session (wip/print/myprint.py) over the kit's print, with contracts of its own; not a text of print.sh's.
import Derived.Test.YtgakkndbcilclaaPCx0
import Derived.Test.YtgakkndbcilclaaPCx2
import Derived.Test.YtgakkndbcilclaaPCx3
import Derived.Test.YtgakkndbcilclaaPCx4
import Derived.Test.YtgakkndbcilclaaPCx5
namespace Go.Proofs.Ytgakkndbcilclaa.PC
open Go.RowKit Go.Proofs.YtgakkndbcilclaaW.PrintWords Go.Proofs.YtgakkndbcilclaaW.PrintLast Go.Proofs.YtgakkndbcilclaaW.PrintMore
attribute [local go_sem] max2_int min2_int max_two min_two   -- for this text's walks alone
set_option linter.unusedVariables false
set_option linter.unusedSimpArgs false

/-! ### spec_ReadProfile: function 33 -/
mutual
def spec_ReadProfile.l0 : Nat → ByteArray → List ByteArray → Bool → ByteArray → Int → Int → List (S71) → List (S75) → Int → Int → Int → Option (Int × Int × (List (S71)) × (List (S75)) × Int × Int × Int)
 | 0,_,_,_,_,_,_,_,_,_,_,_ => none
 | k + 1,x0,x5,x6,x124000,x124001,x124002,x125000,x125001,x125002,x125003,x125004 => if x124002 < 0 then (spec_ReadProfile.j1 k x0 x5 x6 (!x6) x124000 x124001 x124002 x125000 x125001 x125002 x125003 x125004) else (spec_ReadProfile.j1 k x0 x5 x6 false x124000 x124001 x124002 x125000 x125001 x125002 x125003 x125004)
def spec_ReadProfile.j1 : Nat → ByteArray → List ByteArray → Bool → Bool → ByteArray → Int → Int → List (S71) → List (S75) → Int → Int → Int → Option (Int × Int × (List (S71)) × (List (S75)) × Int × Int × Int)
 | 0,_,_,_,_,_,_,_,_,_,_,_,_ => none
 | k + 1,x0,x5,x6,x29,x124000,x124001,x124002,x125000,x125001,x125002,x125003,x125004 => if x29 = true then ((spec_l5R_word.f k x124000 x124001 x124002 x5).bind fun bt128 => (if bt128.1.toList = ([116,114,97,99,107,32] : List UInt8) then ((spec_l5R_num.f k bt128.2.1 bt128.2.2.1 bt128.2.2.2).bind fun bt132 => ((spec_l5R_must.f k bt132.2.1 bt132.2.2.1 bt132.2.2.2 (⟨#[32,98,114,97,107,101,32]⟩ : ByteArray)).bind fun bt136 => ((spec_l5R_num.f k bt136.1 bt136.2.1 bt136.2.2).bind fun bt139 => (if x125000.length < 8796093022208 then ((spec_l5R_must.f k bt139.2.1 bt139.2.2.1 bt139.2.2.2 (⟨#[10]⟩ : ByteArray)).bind fun bt149 => (spec_ReadProfile.l0 k x0 (([(⟨#[116,114,97,99,107,32]⟩ : ByteArray),(⟨#[108,105,109,105,116,32]⟩ : ByteArray),(⟨#[116,114,97,105,110,32]⟩ : ByteArray)] : List ByteArray)) x6 bt149.1 bt149.2.1 bt149.2.2 (x125000 ++ [(⟨bt132.1,bt139.1⟩ : S71)]) x125001 x125002 x125003 x125004)) else (none))))) else (if bt128.1.toList = ([108,105,109,105,116,32] : List UInt8) then ((spec_l5R_num.f k bt128.2.1 bt128.2.2.1 bt128.2.2.2).bind fun bt152 => ((spec_l5R_must.f k bt152.2.1 bt152.2.2.1 bt152.2.2.2 (⟨#[32]⟩ : ByteArray)).bind fun bt156 => ((spec_l5R_num.f k bt156.1 bt156.2.1 bt156.2.2).bind fun bt159 => ((spec_l5R_must.f k bt159.2.1 bt159.2.2.1 bt159.2.2.2 (⟨#[32]⟩ : ByteArray)).bind fun bt163 => ((spec_l5R_num.f k bt163.1 bt163.2.1 bt163.2.2).bind fun bt166 => (if x125001.length < 5864062014805 then ((spec_l5R_must.f k bt166.2.1 bt166.2.2.1 bt166.2.2.2 (⟨#[10]⟩ : ByteArray)).bind fun bt176 => (spec_ReadProfile.l0 k x0 (([(⟨#[108,105,109,105,116,32]⟩ : ByteArray),(⟨#[116,114,97,105,110,32]⟩ : ByteArray)] : List ByteArray)) x6 bt176.1 bt176.2.1 bt176.2.2 x125000 (x125001 ++ [(⟨bt152.1,bt159.1,bt166.1⟩ : S75)]) x125002 x125003 x125004)) else (none))))))) else (if bt128.1.toList = ([116,114,97,105,110,32] : List UInt8) then ((spec_l5R_num.f k bt128.2.1 bt128.2.2.1 bt128.2.2.2).bind fun bt179 => ((spec_l5R_must.f k bt179.2.1 bt179.2.2.1 bt179.2.2.2 (⟨#[32,101,110,100,32]⟩ : ByteArray)).bind fun bt183 => ((spec_l5R_num.f k bt183.1 bt183.2.1 bt183.2.2).bind fun bt186 => ((spec_l5R_must.f k bt186.2.1 bt186.2.2.1 bt186.2.2.2 (⟨#[32,100,101,108,97,121,32]⟩ : ByteArray)).bind fun bt190 => ((spec_l5R_num.f k bt190.1 bt190.2.1 bt190.2.2).bind fun bt193 => ((spec_l5R_must.f k bt193.2.1 bt193.2.2.1 bt193.2.2.2 (⟨#[10]⟩ : ByteArray)).bind fun bt197 => (spec_ReadProfile.l0 k x0 x5 true bt197.1 bt197.2.1 bt197.2.2 x125000 x125001 bt179.1 bt186.1 bt193.1))))))) else ((spec_l5R_must.f k bt128.2.1 bt128.2.2.1 bt128.2.2.2 (⟨#[10]⟩ : ByteArray)).bind fun bt200 => (spec_ReadProfile.l0 k x0 x5 x6 bt200.1 bt200.2.1 bt200.2.2 x125000 x125001 x125002 x125003 x125004)))))) else (if x124002 < 0 then (spec_ReadProfile.j2 k (decide (x124001 < (x0.size : Int))) x124000 x124001 x124002 x125000 x125001 x125002 x125003 x125004) else (spec_ReadProfile.j2 k false x124000 x124001 x124002 x125000 x125001 x125002 x125003 x125004))
def spec_ReadProfile.j2 : Nat → Bool → ByteArray → Int → Int → List (S71) → List (S75) → Int → Int → Int → Option (Int × Int × (List (S71)) × (List (S75)) × Int × Int × Int)
 | 0,_,_,_,_,_,_,_,_,_ => none
 | k + 1,x102,x124000,x124001,x124002,x125000,x125001,x125002,x125003,x125004 => if x102 = true then (spec_ReadProfile.j3 k x124000 x124001 x124001 x125000 x125001 x125002 x125003 x125004) else (spec_ReadProfile.j3 k x124000 x124001 x124002 x125000 x125001 x125002 x125003 x125004)
def spec_ReadProfile.j3 : Nat → ByteArray → Int → Int → List (S71) → List (S75) → Int → Int → Int → Option (Int × Int × (List (S71)) × (List (S75)) × Int × Int × Int)
 | 0,_,_,_,_,_,_,_,_ => none
 | k + 1,x124000,x124001,x124002,x125000,x125001,x125002,x125003,x125004 => if x124002 ≥ 0 then (some (1,x124002,([] : List (S71)),([] : List (S75)),0,0,0)) else ((spec_ProfileOk.f k x125000 x125001 x125002 x125003 x125004).bind fun t203 => (if t203 = 0 then (some (0,0,x125000,x125001,x125002,x125003,x125004)) else (some (wrap64 (1 + t203),0,([] : List (S71)),([] : List (S75)),0,0,0))))
end
def spec_ReadProfile.f (k : Nat) (a0 : ByteArray) : Option (Int × Int × (List (S71)) × (List (S75)) × Int × Int × Int):=if (a0.size : Int) > 3000 then (some (1,3000,([] : List (S71)),([] : List (S75)),0,0,0)) else (spec_ReadProfile.l0 k a0 (([(⟨#[116,114,97,99,107,32]⟩ : ByteArray)] : List ByteArray)) false a0 0 (-1) ([] : List (S71)) ([] : List (S75)) 0 0 0)
theorem spec_ReadProfile.mono_l : ∀ k,(∀ y0 y1 y2 y3 y4 y5 y6 y7 y8 y9 y10,LeO (spec_ReadProfile.l0 k y0 y1 y2 y3 y4 y5 y6 y7 y8 y9 y10) (spec_ReadProfile.l0 (k + 1) y0 y1 y2 y3 y4 y5 y6 y7 y8 y9 y10))∧(∀ y0 y1 y2 y3 y4 y5 y6 y7 y8 y9 y10 y11,LeO (spec_ReadProfile.j1 k y0 y1 y2 y3 y4 y5 y6 y7 y8 y9 y10 y11) (spec_ReadProfile.j1 (k + 1) y0 y1 y2 y3 y4 y5 y6 y7 y8 y9 y10 y11))∧(∀ y0 y1 y2 y3 y4 y5 y6 y7 y8,LeO (spec_ReadProfile.j2 k y0 y1 y2 y3 y4 y5 y6 y7 y8) (spec_ReadProfile.j2 (k + 1) y0 y1 y2 y3 y4 y5 y6 y7 y8))∧(∀ y0 y1 y2 y3 y4 y5 y6 y7,LeO (spec_ReadProfile.j3 k y0 y1 y2 y3 y4 y5 y6 y7) (spec_ReadProfile.j3 (k + 1) y0 y1 y2 y3 y4 y5 y6 y7))
 | 0 => ⟨fun _ _ _ _ _ _ _ _ _ _ _ r h => by simp [spec_ReadProfile.l0] at h,fun _ _ _ _ _ _ _ _ _ _ _ _ r h => by simp [spec_ReadProfile.j1] at h,fun _ _ _ _ _ _ _ _ _ r h => by simp [spec_ReadProfile.j2] at h,fun _ _ _ _ _ _ _ _ r h => by simp [spec_ReadProfile.j3] at h⟩
 | k + 1 => by
  obtain ⟨ih0,ih1,ih2,ih3⟩:=spec_ReadProfile.mono_l k
  refine ⟨?_,?_,?_,?_⟩
  ·intro y0 y1 y2 y3 y4 y5 y6 y7 y8 y9 y10
   unfold spec_ReadProfile.l0
   repeat' first
   | (with_reducible exact ih0 _ _ _ _ _ _ _ _ _ _ _)
   | (with_reducible exact ih1 _ _ _ _ _ _ _ _ _ _ _ _)
   | (with_reducible exact ih2 _ _ _ _ _ _ _ _ _)
   | (with_reducible exact ih3 _ _ _ _ _ _ _ _)
   | (with_reducible exact spec_ProfileOk.mono _ _ _ _ _ _)
   | (with_reducible exact spec_l5R_must.mono _ _ _ _ _)
   | (with_reducible exact spec_l5R_num.mono _ _ _ _)
   | (with_reducible exact spec_l5R_word.mono _ _ _ _ _)
   | (with_reducible exact LeO.refl _)
   | (with_reducible exact LeO.none _)
   | (with_reducible refine LeO.ite ?_ ?_)
   | (with_reducible refine LeO.bind ?_ (fun _ => ?_))
   | exact ih0 _ _ _ _ _ _ _ _ _ _ _
   | exact ih1 _ _ _ _ _ _ _ _ _ _ _ _
   | exact ih2 _ _ _ _ _ _ _ _ _
   | exact ih3 _ _ _ _ _ _ _ _
   | exact spec_ProfileOk.mono _ _ _ _ _ _
   | exact spec_l5R_must.mono _ _ _ _ _
   | exact spec_l5R_num.mono _ _ _ _
   | exact spec_l5R_word.mono _ _ _ _ _
   | exact LeO.none _
   | refine LeO.ite ?_ ?_
   | refine LeO.bind ?_ (fun _ => ?_)
  ·intro y0 y1 y2 y3 y4 y5 y6 y7 y8 y9 y10 y11
   unfold spec_ReadProfile.j1
   repeat' first
   | (with_reducible exact ih0 _ _ _ _ _ _ _ _ _ _ _)
   | (with_reducible exact ih1 _ _ _ _ _ _ _ _ _ _ _ _)
   | (with_reducible exact ih2 _ _ _ _ _ _ _ _ _)
   | (with_reducible exact ih3 _ _ _ _ _ _ _ _)
   | (with_reducible exact spec_ProfileOk.mono _ _ _ _ _ _)
   | (with_reducible exact spec_l5R_must.mono _ _ _ _ _)
   | (with_reducible exact spec_l5R_num.mono _ _ _ _)
   | (with_reducible exact spec_l5R_word.mono _ _ _ _ _)
   | (with_reducible exact LeO.refl _)
   | (with_reducible exact LeO.none _)
   | (with_reducible refine LeO.ite ?_ ?_)
   | (with_reducible refine LeO.bind ?_ (fun _ => ?_))
   | exact ih0 _ _ _ _ _ _ _ _ _ _ _
   | exact ih1 _ _ _ _ _ _ _ _ _ _ _ _
   | exact ih2 _ _ _ _ _ _ _ _ _
   | exact ih3 _ _ _ _ _ _ _ _
   | exact spec_ProfileOk.mono _ _ _ _ _ _
   | exact spec_l5R_must.mono _ _ _ _ _
   | exact spec_l5R_num.mono _ _ _ _
   | exact spec_l5R_word.mono _ _ _ _ _
   | exact LeO.none _
   | refine LeO.ite ?_ ?_
   | refine LeO.bind ?_ (fun _ => ?_)
  ·intro y0 y1 y2 y3 y4 y5 y6 y7 y8
   unfold spec_ReadProfile.j2
   repeat' first
   | (with_reducible exact ih0 _ _ _ _ _ _ _ _ _ _ _)
   | (with_reducible exact ih1 _ _ _ _ _ _ _ _ _ _ _ _)
   | (with_reducible exact ih2 _ _ _ _ _ _ _ _ _)
   | (with_reducible exact ih3 _ _ _ _ _ _ _ _)
   | (with_reducible exact spec_ProfileOk.mono _ _ _ _ _ _)
   | (with_reducible exact spec_l5R_must.mono _ _ _ _ _)
   | (with_reducible exact spec_l5R_num.mono _ _ _ _)
   | (with_reducible exact spec_l5R_word.mono _ _ _ _ _)
   | (with_reducible exact LeO.refl _)
   | (with_reducible exact LeO.none _)
   | (with_reducible refine LeO.ite ?_ ?_)
   | (with_reducible refine LeO.bind ?_ (fun _ => ?_))
   | exact ih0 _ _ _ _ _ _ _ _ _ _ _
   | exact ih1 _ _ _ _ _ _ _ _ _ _ _ _
   | exact ih2 _ _ _ _ _ _ _ _ _
   | exact ih3 _ _ _ _ _ _ _ _
   | exact spec_ProfileOk.mono _ _ _ _ _ _
   | exact spec_l5R_must.mono _ _ _ _ _
   | exact spec_l5R_num.mono _ _ _ _
   | exact spec_l5R_word.mono _ _ _ _ _
   | exact LeO.none _
   | refine LeO.ite ?_ ?_
   | refine LeO.bind ?_ (fun _ => ?_)
  ·intro y0 y1 y2 y3 y4 y5 y6 y7
   unfold spec_ReadProfile.j3
   repeat' first
   | (with_reducible exact ih0 _ _ _ _ _ _ _ _ _ _ _)
   | (with_reducible exact ih1 _ _ _ _ _ _ _ _ _ _ _ _)
   | (with_reducible exact ih2 _ _ _ _ _ _ _ _ _)
   | (with_reducible exact ih3 _ _ _ _ _ _ _ _)
   | (with_reducible exact spec_ProfileOk.mono _ _ _ _ _ _)
   | (with_reducible exact spec_l5R_must.mono _ _ _ _ _)
   | (with_reducible exact spec_l5R_num.mono _ _ _ _)
   | (with_reducible exact spec_l5R_word.mono _ _ _ _ _)
   | (with_reducible exact LeO.refl _)
   | (with_reducible exact LeO.none _)
   | (with_reducible refine LeO.ite ?_ ?_)
   | (with_reducible refine LeO.bind ?_ (fun _ => ?_))
   | exact ih0 _ _ _ _ _ _ _ _ _ _ _
   | exact ih1 _ _ _ _ _ _ _ _ _ _ _ _
   | exact ih2 _ _ _ _ _ _ _ _ _
   | exact ih3 _ _ _ _ _ _ _ _
   | exact spec_ProfileOk.mono _ _ _ _ _ _
   | exact spec_l5R_must.mono _ _ _ _ _
   | exact spec_l5R_num.mono _ _ _ _
   | exact spec_l5R_word.mono _ _ _ _ _
   | exact LeO.none _
   | refine LeO.ite ?_ ?_
   | refine LeO.bind ?_ (fun _ => ?_)
theorem spec_ReadProfile.mono : ∀ a0 k,LeO (spec_ReadProfile.f k a0) (spec_ReadProfile.f (k + 1) a0):=by
 intro a0 k
 obtain ⟨ih0,ih1,ih2,ih3⟩:=spec_ReadProfile.mono_l k
 unfold spec_ReadProfile.f
 repeat' first
   | (with_reducible exact ih0 _ _ _ _ _ _ _ _ _ _ _)
   | (with_reducible exact ih1 _ _ _ _ _ _ _ _ _ _ _ _)
   | (with_reducible exact ih2 _ _ _ _ _ _ _ _ _)
   | (with_reducible exact ih3 _ _ _ _ _ _ _ _)
   | (with_reducible exact spec_ProfileOk.mono _ _ _ _ _ _)
   | (with_reducible exact spec_l5R_must.mono _ _ _ _ _)
   | (with_reducible exact spec_l5R_num.mono _ _ _ _)
   | (with_reducible exact spec_l5R_word.mono _ _ _ _ _)
   | (with_reducible exact LeO.refl _)
   | (with_reducible exact LeO.none _)
   | (with_reducible refine LeO.ite ?_ ?_)
   | (with_reducible refine LeO.bind ?_ (fun _ => ?_))
   | exact ih0 _ _ _ _ _ _ _ _ _ _ _
   | exact ih1 _ _ _ _ _ _ _ _ _ _ _ _
   | exact ih2 _ _ _ _ _ _ _ _ _
   | exact ih3 _ _ _ _ _ _ _ _
   | exact spec_ProfileOk.mono _ _ _ _ _ _
   | exact spec_l5R_must.mono _ _ _ _ _
   | exact spec_l5R_num.mono _ _ _ _
   | exact spec_l5R_word.mono _ _ _ _ _
   | exact LeO.none _
   | refine LeO.ite ?_ ?_
   | refine LeO.bind ?_ (fun _ => ?_)
set_option maxHeartbeats 8000000 in
set_option maxRecDepth 100000 in
theorem spec_ReadProfile.calls (k : Nat) (a0 : ByteArray) (r1 : Int) (r2 : Int) (r3 : List (S71)) (r4 : List (S75)) (r5 : Int) (r6 : Int) (r7 : Int) (w : World) (h : spec_ReadProfile.f k a0 = some (r1,r2,r3,r4,r5,r6,r7)) :
  Calls Try.prog 33 #[.string a0] w fun e w' => ∃ v2_ v3_ : Value,e = .returned (.agg #[.int .i64 r1,.int .i64 r2,v2_,v3_,.int .i64 r5,.int .i64 r6,.int .i64 r7])∧Kd.R k71 71 w' w.heap.size (fun _ => True) v2_ r3∧Kd.R k75 75 w' w.heap.size (fun _ => True) v3_ r4∧Below w.heap.size w w':=by
 have hu46:=Try.underlying46
 have hu90:=Try.underlying90
 have hu31:=Try.underlying31
 have hu71:=Try.underlying71
 have hu75:=Try.underlying75
 have HB:=Am (Below.refl w.heap.size w)
 have H : (if (a0.size : Int) > 3000 then (some (1,3000,([] : List (S71)),([] : List (S75)),0,0,0)) else (spec_ReadProfile.l0 k a0 (([(⟨#[116,114,97,99,107,32]⟩ : ByteArray)] : List ByteArray)) false a0 0 (-1) ([] : List (S71)) ([] : List (S75)) 0 0 0)) = some (r1,r2,r3,r4,r5,r6,r7):=h
 clear h
 by_cases c2 : (a0.size : Int) > 3000
 ·rw [if_pos c2] at H
  have c2b0 : decide (3000 < (a0.size : Int)) = true:=decide_eq_true c2
  have c2b1 : decide (3000 < a0.size) = true:=decide_eq_true (by omega)
  clear c2
  simp only [Option.some.injEq,Prod.mk.injEq] at H
  obtain ⟨rfl,rfl,rfl,rfl,rfl,rfl,rfl⟩:=H
  go_enter Try.func33,Try.ntmps33
  go_wp2_with (first|((with_reducible refine gate_dst (N:=2) rfl ?_);(try (refine gate_guard (by rfl) ?_;dsimp only));refine box_event ?hg (N:=2) ?hd (cs:=#[.int .i64 0,.int .i64 0,.slice none 0 0,.slice none 0 0,.int .i64 0,.int .i64 0,.int .i64 0]) (t:=46) ?hr ?_;(case hd => rfl);(case hg => rfl);(case hr => first|(go_simp;done)|(go_simp;rfl));intro gb122 hg w3 hbox hb;have n0_:=Am (below_step (by repeat (first|(with_reducible first|exact HB.out|apply bA|apply bN|apply bD)|exact HB.out)) hb);have n1_:=Am (hbox);have n2_:=Am ((by rw [hg];exact (below_size (by repeat (first|(with_reducible first|exact HB.out|apply bA|apply bN|apply bD)|exact HB.out))) : w.heap.size ≤ gb122));have n3_:=Am ((by rw [hg];exact (below_size (by repeat (first|(with_reducible first|exact HB.out|apply bA|apply bN|apply bD)|exact HB.out))) : w.heap.size ≤ gb122));clear HB;have HB:=n0_;have BK122:=n1_;have GW122:=n2_;have GE122:=n3_;clear n0_ n1_ n2_ n3_;clear hb hbox hg;have hcz4_0 : w3.cell? ⟨gb122,0,none⟩ = some (.int .i64 0):=(kC BK122.out 0).trans rfl;have hcz4_1 : w3.cell? ⟨gb122,1,none⟩ = some (.int .i64 0):=(kC BK122.out 1).trans rfl;have hcz4_2 : w3.cell? ⟨gb122,2,none⟩ = some (.slice none 0 0):=(kC BK122.out 2).trans rfl;have hcz4_3 : w3.cell? ⟨gb122,3,none⟩ = some (.slice none 0 0):=(kC BK122.out 3).trans rfl;have hcz4_4 : w3.cell? ⟨gb122,4,none⟩ = some (.int .i64 0):=(kC BK122.out 4).trans rfl;have hcz4_5 : w3.cell? ⟨gb122,5,none⟩ = some (.int .i64 0):=(kC BK122.out 5).trans rfl;have hcz4_6 : w3.cell? ⟨gb122,6,none⟩ = some (.int .i64 0):=(kC BK122.out 6).trans rfl;have hfz4_0:=kF BK122.out 0;have hfz4_1:=kF BK122.out 1;have hfz4_2:=kF BK122.out 2;have hfz4_3:=kF BK122.out 3;have hfz4_4:=kF BK122.out 4;have hfz4_5:=kF BK122.out 5;have hfz4_6:=kF BK122.out 6))
  refine bodyPost_ret (results_cell_row rfl _ _ gb122 46 #[.int .i64 1,.int .i64 3000,.slice none 0 0,.slice none 0 0,.int .i64 0,.int .i64 0,.int .i64 0] (0,0) _ rfl (by (with_reducible repeat (first|refine kN ?_ _|refine kD ?_|refine kA ?_ _));refine blk_put (cs:=#[.int .i64 1,.int .i64 3000,.slice none 0 0,.slice none 0 0,.int .i64 0,.int .i64 0,.int .i64 0]) ?_ 6 _ rfl;(with_reducible repeat (first|refine kN ?_ _|refine kD ?_|refine kA ?_ _));refine blk_put (cs:=#[.int .i64 1,.int .i64 3000,.slice none 0 0,.slice none 0 0,.int .i64 0,.int .i64 0,.int .i64 0]) ?_ 5 _ rfl;(with_reducible repeat (first|refine kN ?_ _|refine kD ?_|refine kA ?_ _));refine blk_put (cs:=#[.int .i64 1,.int .i64 3000,.slice none 0 0,.slice none 0 0,.int .i64 0,.int .i64 0,.int .i64 0]) ?_ 4 _ rfl;(with_reducible repeat (first|refine kN ?_ _|refine kD ?_|refine kA ?_ _));refine blk_put (cs:=#[.int .i64 1,.int .i64 3000,.slice none 0 0,.slice none 0 0,.int .i64 0,.int .i64 0,.int .i64 0]) ?_ 3 _ rfl;(with_reducible repeat (first|refine kN ?_ _|refine kD ?_|refine kA ?_ _));refine blk_put (cs:=#[.int .i64 1,.int .i64 3000,.slice none 0 0,.slice none 0 0,.int .i64 0,.int .i64 0,.int .i64 0]) ?_ 2 _ rfl;(with_reducible repeat (first|refine kN ?_ _|refine kD ?_|refine kA ?_ _));refine blk_put (cs:=#[.int .i64 1,.int .i64 0,.slice none 0 0,.slice none 0 0,.int .i64 0,.int .i64 0,.int .i64 0]) ?_ 1 _ rfl;(with_reducible repeat (first|refine kN ?_ _|refine kD ?_|refine kA ?_ _));refine blk_put (cs:=#[.int .i64 0,.int .i64 0,.slice none 0 0,.slice none 0 0,.int .i64 0,.int .i64 0,.int .i64 0]) ?_ 0 _ rfl;(with_reducible repeat (first|refine kN ?_ _|refine kD ?_|refine kA ?_ _));exact BK122.out) Try.underlying46 rfl (by kernel_rfl)) rfl ?_
  exact ⟨_,_,by first|rfl|(simp [errW_none,errW_some] <;> rfl)|(simp [*,errW_none,errW_some] <;> rfl),by first|exact Kd.R_nil _ _ _ _ _|exact Kd.N_nil _ _ _ _ _|exact Kd.V_nil _ _ _ _ _|exact Kd.Q_nil _ _ _ _ _|exact Kd.S_nil _ _ _ _ _,by first|exact Kd.R_nil _ _ _ _ _|exact Kd.N_nil _ _ _ _ _|exact Kd.V_nil _ _ _ _ _|exact Kd.Q_nil _ _ _ _ _|exact Kd.S_nil _ _ _ _ _,by repeat (first|(with_reducible first|exact HB.out|apply bA|apply bN|apply bD|refine bS ?_ GE122.out)|exact HB.out)⟩
 ·rw [if_neg c2] at H
  have c2b0 : decide (3000 < (a0.size : Int)) = false:=decide_eq_false c2
  have c2b1 : decide (3000 < a0.size) = false:=decide_eq_false (by omega)
  clear c2
  obtain ⟨y125,hy125⟩ : ∃ y_ : List ByteArray,y_ = (([(⟨#[116,114,97,99,107,32]⟩ : ByteArray)] : List ByteArray)):=⟨_,rfl⟩
  replace H : (spec_ReadProfile.l0 k a0 y125 false a0 0 (-1) ([] : List (S71)) ([] : List (S75)) 0 0 0) = some (r1,r2,r3,r4,r5,r6,r7):=by first|(rw [hy125];with_reducible exact H)|(have H2_:=(Option.bind_some _ _).symm.trans H;rw [hy125];with_reducible exact H2_)|(have H2_:=(Option.bind_some _ _).symm.trans H;with_reducible exact H2_)|with_reducible exact H|(rw [hy125];exact H)|exact H
  have Ny125:=Am hy125
  clear hy125
  have H':=Am H
  clear H
  go_enter Try.func33,Try.ntmps33
  go_wp2_with (first|((with_reducible refine gate_dst (N:=2) rfl ?_);(try (refine gate_guard (by rfl) ?_;dsimp only));refine box_event ?hg (N:=2) ?hd (cs:=#[.int .i64 0,.int .i64 0,.slice none 0 0,.slice none 0 0,.int .i64 0,.int .i64 0,.int .i64 0]) (t:=46) ?hr ?_;(case hd => rfl);(case hg => rfl);(case hr => first|(go_simp;done)|(go_simp;rfl));intro gb122 hg w5 hbox hb;have n0_:=Am (below_step (by repeat (first|(with_reducible first|exact HB.out|apply bA|apply bN|apply bD)|exact HB.out)) hb);have n1_:=Am (hbox);have n2_:=Am ((by rw [hg];exact (below_size (by repeat (first|(with_reducible first|exact HB.out|apply bA|apply bN|apply bD)|exact HB.out))) : w.heap.size ≤ gb122));have n3_:=Am ((by rw [hg];exact (below_size (by repeat (first|(with_reducible first|exact HB.out|apply bA|apply bN|apply bD)|exact HB.out))) : w.heap.size ≤ gb122));clear HB;have HB:=n0_;have BK122:=n1_;have GW122:=n2_;have GE122:=n3_;clear n0_ n1_ n2_ n3_;clear hb hbox hg)|((with_reducible refine gate_dst (N:=19) rfl ?_);(try (refine gate_guard (by rfl) ?_;dsimp only));refine box_event ?hg (N:=19) ?hd (cs:=#[.string a0,.int .i64 0,.int .i64 (-1)]) (t:=90) ?hr ?_;(case hd => rfl);(case hg => rfl);(case hr => first|(go_simp;done)|(go_simp;rfl));intro gb123 hg w6 hbox hb;have n0_:=Am (blk_below (g:=gb122) (o:=.cells #[.int .i64 0,.int .i64 0,.slice none 0 0,.slice none 0 0,.int .i64 0,.int .i64 0,.int .i64 0] 46 (0,0)) (by (with_reducible repeat (first|refine kN ?_ _|refine kD ?_|refine kA ?_ _));exact BK122.out) hb);have n1_:=Am (below_step (by repeat (first|(with_reducible first|exact HB.out|apply bA|apply bN|apply bD|refine bS ?_ GE122.out)|exact HB.out)) hb);have n2_:=Am (hbox);have n3_:=Am ((by rw [hg];exact (below_size (by repeat (first|(with_reducible first|exact HB.out|apply bA|apply bN|apply bD|refine bS ?_ GE122.out)|exact HB.out))) : w.heap.size ≤ gb123));have n4_:=Am ((by rw [hg];exact (below_size (by repeat (first|(with_reducible first|exact HB.out|apply bA|apply bN|apply bD|refine bS ?_ GE122.out)|exact HB.out))) : w.heap.size ≤ gb123));have n5_:=Am ((by rw [hg];exact Nat.ne_of_lt (blk_lt (g:=gb122) (o:=.cells #[.int .i64 0,.int .i64 0,.slice none 0 0,.slice none 0 0,.int .i64 0,.int .i64 0,.int .i64 0] 46 (0,0)) (by (with_reducible repeat (first|refine kN ?_ _|refine kD ?_|refine kA ?_ _));exact BK122.out)) : gb122 ≠ gb123));have n6_:=Am ((by rw [hg];exact Nat.ne_of_gt (blk_lt (g:=gb122) (o:=.cells #[.int .i64 0,.int .i64 0,.slice none 0 0,.slice none 0 0,.int .i64 0,.int .i64 0,.int .i64 0] 46 (0,0)) (by (with_reducible repeat (first|refine kN ?_ _|refine kD ?_|refine kA ?_ _));exact BK122.out)) : gb123 ≠ gb122));clear BK122;clear HB;have BK122:=n0_;have HB:=n1_;have BK123:=n2_;have GW123:=n3_;have GE123:=n4_;have NB122_123:=n5_;have NB123_122:=n6_;clear n0_ n1_ n2_ n3_ n4_ n5_ n6_;clear hb hbox hg)|((with_reducible refine gate_dst (N:=4) rfl ?_);(try (refine gate_guard (by rfl) ?_;dsimp only));refine box_event ?hg (N:=4) ?hd (cs:=#[.slice none 0 0,.slice none 0 0,.int .i64 0,.int .i64 0,.int .i64 0]) (t:=31) ?hr ?_;(case hd => rfl);(case hg => rfl);(case hr => first|(go_simp;done)|(go_simp;rfl));intro gb124 hg w7 hbox hb;have n0_:=Am (blk_below (g:=gb122) (o:=.cells #[.int .i64 0,.int .i64 0,.slice none 0 0,.slice none 0 0,.int .i64 0,.int .i64 0,.int .i64 0] 46 (0,0)) (by (with_reducible repeat (first|refine kN ?_ _|refine kD ?_|refine kA ?_ _));exact BK122.out) hb);have n1_:=Am (blk_below (g:=gb123) (o:=.cells #[.string a0,.int .i64 0,.int .i64 (-1)] 90 (0,0)) (by (with_reducible repeat (first|refine kN ?_ _|refine kD ?_|refine kA ?_ _));exact BK123.out) hb);have n2_:=Am (below_step (by repeat (first|(with_reducible first|exact HB.out|apply bA|apply bN|apply bD|refine bS ?_ GE122.out|refine bS ?_ GE123.out)|exact HB.out)) hb);have n3_:=Am (hbox);have n4_:=Am ((by rw [hg];exact (below_size (by repeat (first|(with_reducible first|exact HB.out|apply bA|apply bN|apply bD|refine bS ?_ GE122.out|refine bS ?_ GE123.out)|exact HB.out))) : w.heap.size ≤ gb124));have n5_:=Am ((by rw [hg];exact (below_size (by repeat (first|(with_reducible first|exact HB.out|apply bA|apply bN|apply bD|refine bS ?_ GE122.out|refine bS ?_ GE123.out)|exact HB.out))) : w.heap.size ≤ gb124));have n6_:=Am ((by rw [hg];exact Nat.ne_of_lt (blk_lt (g:=gb122) (o:=.cells #[.int .i64 0,.int .i64 0,.slice none 0 0,.slice none 0 0,.int .i64 0,.int .i64 0,.int .i64 0] 46 (0,0)) (by (with_reducible repeat (first|refine kN ?_ _|refine kD ?_|refine kA ?_ _));exact BK122.out)) : gb122 ≠ gb124));have n7_:=Am ((by rw [hg];exact Nat.ne_of_gt (blk_lt (g:=gb122) (o:=.cells #[.int .i64 0,.int .i64 0,.slice none 0 0,.slice none 0 0,.int .i64 0,.int .i64 0,.int .i64 0] 46 (0,0)) (by (with_reducible repeat (first|refine kN ?_ _|refine kD ?_|refine kA ?_ _));exact BK122.out)) : gb124 ≠ gb122));have n8_:=Am ((by rw [hg];exact Nat.ne_of_lt (blk_lt (g:=gb123) (o:=.cells #[.string a0,.int .i64 0,.int .i64 (-1)] 90 (0,0)) (by (with_reducible repeat (first|refine kN ?_ _|refine kD ?_|refine kA ?_ _));exact BK123.out)) : gb123 ≠ gb124));have n9_:=Am ((by rw [hg];exact Nat.ne_of_gt (blk_lt (g:=gb123) (o:=.cells #[.string a0,.int .i64 0,.int .i64 (-1)] 90 (0,0)) (by (with_reducible repeat (first|refine kN ?_ _|refine kD ?_|refine kA ?_ _));exact BK123.out)) : gb124 ≠ gb123));clear BK122;clear BK123;clear HB;have BK122:=n0_;have BK123:=n1_;have HB:=n2_;have BK124:=n3_;have GW124:=n4_;have GE124:=n5_;have NB122_124:=n6_;have NB124_122:=n7_;have NB123_124:=n8_;have NB124_123:=n9_;clear n0_ n1_ n2_ n3_ n4_ n5_ n6_ n7_ n8_ n9_;clear hb hbox hg)|((with_reducible refine gate_dst (N:=20) rfl ?_);(try (refine gate_guard (by rfl) ?_;dsimp only));refine Kd.R_lit Kd.string _ 9 ?hg (N:=20) ?hd (xs:=([(⟨#[116,114,97,99,107,32]⟩ : ByteArray)] : List ByteArray)) (inner:=[.string (⟨#[116,114,97,99,107,32]⟩ : ByteArray)]) (ok:=fun _ => True) (okp:=fun _ => True) ?hr ?hp (fun _ hk => hk) trivial (Below.refl _ _) (Nat.le_refl _) (by simp) ?_;(case hd => rfl);(case hg => rfl);(case hr => first|(go_simp;done)|(go_simp;rfl));(case hp => exact (Reps.one (show Kd.M Kd.string _ _ _ (⟨#[116,114,97,99,107,32]⟩ : ByteArray) [.string (⟨#[116,114,97,99,107,32]⟩ : ByteArray)] from rfl) (Reps.none _ _)));intro v126 w8 ho9 hb hg_ hnew_;clear hg_ hnew_;(first|rw [← Ny125.out] at ho9|(simp only [Int.reduceToNat] at ho9;rw [← Ny125.out] at ho9));have n0_:=Am (Kd.R_lower ho9 (below_size (by repeat (first|(with_reducible first|exact HB.out|apply bA|apply bN|apply bD|refine bS ?_ GE122.out|refine bS ?_ GE123.out|refine bS ?_ GE124.out)|exact HB.out))));have n1_:=Am (blk_below (g:=gb122) (o:=.cells #[.int .i64 0,.int .i64 0,.slice none 0 0,.slice none 0 0,.int .i64 0,.int .i64 0,.int .i64 0] 46 (0,0)) (by (with_reducible repeat (first|refine kN ?_ _|refine kD ?_|refine kA ?_ _));exact BK122.out) hb);have n2_:=Am (blk_below (g:=gb123) (o:=.cells #[.string a0,.int .i64 0,.int .i64 (-1)] 90 (0,0)) (by (with_reducible repeat (first|refine kN ?_ _|refine kD ?_|refine kA ?_ _));exact BK123.out) hb);have n3_:=Am (blk_below (g:=gb124) (o:=.cells #[.slice none 0 0,.slice none 0 0,.int .i64 0,.int .i64 0,.int .i64 0] 31 (0,0)) (by (with_reducible repeat (first|refine kN ?_ _|refine kD ?_|refine kA ?_ _));exact BK124.out) hb);have n4_:=Am (below_step (by repeat (first|(with_reducible first|exact HB.out|apply bA|apply bN|apply bD|refine bS ?_ GE122.out|refine bS ?_ GE123.out|refine bS ?_ GE124.out)|exact HB.out)) hb);clear BK122;clear BK123;clear BK124;clear HB;have HO127:=n0_;have BK122:=n1_;have BK123:=n2_;have BK124:=n3_;have HB:=n4_;clear n0_ n1_ n2_ n3_ n4_;clear hb ho9))
  go_loopg [5,6] k (fun kq v5 v6 w' => ∃ (x5_1 : List ByteArray) (x6_1 : Bool) (x124000_1 : ByteArray) (x124001_1 : Int) (x124002_1 : Int) (x125000_1 : List (S71)) (x125001_1 : List (S75)) (x125002_1 : Int) (x125003_1 : Int) (x125004_1 : Int) (u125000 : Value) (u125001 : Value),v6 = .bool x6_1∧As (spec_ReadProfile.l0 kq a0 x5_1 x6_1 x124000_1 x124001_1 x124002_1 x125000_1 x125001_1 x125002_1 x125003_1 x125004_1 = some (r1,r2,r3,r4,r5,r6,r7))∧As (kq ≤ k)∧As (Kd.R Kd.string 9 w' w.heap.size (fun _ => True) v5 x5_1)∧As (Kd.R k71 71 w' w.heap.size (fun _ => True) u125000 x125000_1)∧As (Kd.R k75 75 w' w.heap.size (fun _ => True) u125001 x125001_1)∧As (w'.heap[gb122]? = some (.cells #[.int .i64 0,.int .i64 0,(.slice none 0 0),(.slice none 0 0),.int .i64 0,.int .i64 0,.int .i64 0] 46 (0,0)))∧As (w'.heap[gb124]? = some (.cells #[u125000,u125001,.int .i64 x125002_1,.int .i64 x125003_1,.int .i64 x125004_1] 31 (0,0)))∧As (IsS90 w w' gb123 x124000_1 x124001_1 x124002_1)∧As (Below w.heap.size w w'))
  case atStart => exact ⟨(y125),(false),(a0),(0),((-1)),(([] : List (S71))),(([] : List (S75))),(0),(0),(0),(.slice none 0 0),(.slice none 0 0),(by first|rfl|(simp;done)|(simp [*];done)),H',⟨Nat.le_refl _⟩,⟨by (with_reducible repeat (first|apply Kd.R_alloc|apply Kd.R_drewN|apply Kd.R_drew));exact HO127.out⟩,⟨by first|exact Kd.R_nil _ _ _ _ _|exact Kd.N_nil _ _ _ _ _|exact Kd.V_nil _ _ _ _ _|exact Kd.Q_nil _ _ _ _ _|exact Kd.S_nil _ _ _ _ _⟩,⟨by first|exact Kd.R_nil _ _ _ _ _|exact Kd.N_nil _ _ _ _ _|exact Kd.V_nil _ _ _ _ _|exact Kd.Q_nil _ _ _ _ _|exact Kd.S_nil _ _ _ _ _⟩,⟨by (with_reducible repeat (first|refine kN ?_ _|refine kD ?_|refine kA ?_ _));exact BK122.out⟩,⟨by (with_reducible repeat (first|refine kN ?_ _|refine kD ?_|refine kA ?_ _));exact BK124.out⟩,⟨by exact ⟨by (with_reducible repeat (first|refine kN ?_ _|refine kD ?_|refine kA ?_ _));exact BK123.out,GE123.out⟩⟩,⟨by repeat (first|(with_reducible first|exact HB.out|apply bA|apply bN|apply bD|refine bS ?_ GE123.out|refine bS ?_ GE122.out|refine bS ?_ GE124.out)|exact HB.out)⟩⟩
  case round =>
   clear H'
   try clear c2
   try clear c2b0
   try clear c2b1
   try clear p2
   try clear c3
   try clear hcz4_0
   try clear hcz4_1
   try clear hcz4_2
   try clear hcz4_3
   try clear hcz4_4
   try clear hcz4_5
   try clear hcz4_6
   try clear hfz4_0
   try clear hfz4_1
   try clear hfz4_2
   try clear hfz4_3
   try clear hfz4_4
   try clear hfz4_5
   try clear hfz4_6
   obtain ⟨x5_1,x6_1,x124000_1,x124001_1,x124002_1,x125000_1,x125001_1,x125002_1,x125003_1,x125004_1,u125000,u125001,rfl,HA,HK1,HO_5,HO_125000,HO_125001,BK122,BK124,HI123,HB⟩:=hrel
   cases gk with
   | zero => exact absurd HA.out (by simp [spec_ReadProfile.l0])
   | succ k1 =>
    have H:=HA.out
    clear HA
    simp only [spec_ReadProfile.l0] at H
    have HC10:=Am H
    clear H
    go_upto_region 7 with (fail)
    go_cut [29] (fun v29 wc => ∃ (kq : Nat) (x29_9 : Bool),v29 = .bool x29_9∧As (spec_ReadProfile.j1 kq a0 x5_1 x6_1 x29_9 x124000_1 x124001_1 x124002_1 x125000_1 x125001_1 x125002_1 x125003_1 x125004_1 = some (r1,r2,r3,r4,r5,r6,r7))∧As (kq ≤ k1)∧As (Kd.R Kd.string 9 wc w.heap.size (fun _ => True) u5 x5_1)∧As (Kd.R k71 71 wc w.heap.size (fun _ => True) u125000 x125000_1)∧As (Kd.R k75 75 wc w.heap.size (fun _ => True) u125001 x125001_1)∧As (wc.heap[gb122]? = some (.cells #[.int .i64 0,.int .i64 0,(.slice none 0 0),(.slice none 0 0),.int .i64 0,.int .i64 0,.int .i64 0] 46 (0,0)))∧As (wc.heap[gb124]? = some (.cells #[u125000,u125001,.int .i64 x125002_1,.int .i64 x125003_1,.int .i64 x125004_1] 31 (0,0)))∧As (IsS90 w wc gb123 x124000_1 x124001_1 x124002_1)∧As (Below w.heap.size w wc))
    case first =>
     have H:=HC10.out
     clear HC10
     by_cases c11 : x124002_1 < 0
     ·rw [if_pos c11] at H
      have c11b0 : decide (x124002_1 < 0) = true:=decide_eq_true c11
      clear c11
      (first|rw [c11b0]|(simp only [i64_w,i32_w];rw [c11b0])|skip)
      have H':=Am H
      clear H
      obtain ⟨HGz12,hgz12⟩:=HI123.out
      have hcz12_0:=cellS90_0 HGz12
      have hcz12_1:=cellS90_1 HGz12
      have hcz12_2:=cellS90_2 HGz12
      have hfz12_0:=kF HGz12 0
      have hfz12_1:=kF HGz12 1
      have hfz12_2:=kF HGz12 2
      clear HGz12 hgz12
      go_wp2
      go_meet
      case rel => exact ⟨_,(!x6_1),(by first|rfl|(simp;done)|(simp [*];done)),H',⟨by have:=HK1.out;first|omega|exact Nat.le_refl _⟩,⟨by (with_reducible repeat (first|apply Kd.R_alloc|apply Kd.R_drewN|apply Kd.R_drew));exact HO_5.out⟩,⟨by (with_reducible repeat (first|apply Kd.R_alloc|apply Kd.R_drewN|apply Kd.R_drew));exact HO_125000.out⟩,⟨by (with_reducible repeat (first|apply Kd.R_alloc|apply Kd.R_drewN|apply Kd.R_drew));exact HO_125001.out⟩,⟨by (with_reducible repeat (first|refine kN ?_ _|refine kD ?_|refine kA ?_ _));exact BK122.out⟩,⟨by (with_reducible repeat (first|refine kN ?_ _|refine kD ?_|refine kA ?_ _));exact BK124.out⟩,⟨by repeat (first|(with_reducible first|exact HI123.out|apply IsS90.alloc|apply IsS90.drewN|apply IsS90.drew|apply IsS90.set_0|apply IsS90.set_1|apply IsS90.set_2|refine IsS90.far ?_ NB123_122.out _|refine IsS90.far ?_ NB123_124.out _)|exact HI123.out)⟩,⟨by repeat (first|(with_reducible first|exact HB.out|apply bA|apply bN|apply bD|refine bS ?_ (IsS90.ge HI123.out)|refine bS ?_ GE122.out|refine bS ?_ GE124.out)|exact HB.out)⟩⟩
     ·rw [if_neg c11] at H
      have c11b0 : decide (x124002_1 < 0) = false:=decide_eq_false c11
      clear c11
      (first|rw [c11b0]|(simp only [i64_w,i32_w];rw [c11b0])|skip)
      have H':=Am H
      clear H
      obtain ⟨HGz13,hgz13⟩:=HI123.out
      have hcz13_0:=cellS90_0 HGz13
      have hcz13_1:=cellS90_1 HGz13
      have hcz13_2:=cellS90_2 HGz13
      have hfz13_0:=kF HGz13 0
      have hfz13_1:=kF HGz13 1
      have hfz13_2:=kF HGz13 2
      clear HGz13 hgz13
      go_wp2
      go_meet
      case rel => exact ⟨_,(false),(by first|rfl|(simp;done)|(simp [*];done)),H',⟨by have:=HK1.out;first|omega|exact Nat.le_refl _⟩,⟨by (with_reducible repeat (first|apply Kd.R_alloc|apply Kd.R_drewN|apply Kd.R_drew));exact HO_5.out⟩,⟨by (with_reducible repeat (first|apply Kd.R_alloc|apply Kd.R_drewN|apply Kd.R_drew));exact HO_125000.out⟩,⟨by (with_reducible repeat (first|apply Kd.R_alloc|apply Kd.R_drewN|apply Kd.R_drew));exact HO_125001.out⟩,⟨by (with_reducible repeat (first|refine kN ?_ _|refine kD ?_|refine kA ?_ _));exact BK122.out⟩,⟨by (with_reducible repeat (first|refine kN ?_ _|refine kD ?_|refine kA ?_ _));exact BK124.out⟩,⟨by repeat (first|(with_reducible first|exact HI123.out|apply IsS90.alloc|apply IsS90.drewN|apply IsS90.drew|apply IsS90.set_0|apply IsS90.set_1|apply IsS90.set_2|refine IsS90.far ?_ NB123_122.out _|refine IsS90.far ?_ NB123_124.out _)|exact HI123.out)⟩,⟨by repeat (first|(with_reducible first|exact HB.out|apply bA|apply bN|apply bD|refine bS ?_ (IsS90.ge HI123.out)|refine bS ?_ GE122.out|refine bS ?_ GE124.out)|exact HB.out)⟩⟩
    case rest =>
     clear HC10
     try clear c1
     try clear c2
     try clear c2b0
     try clear c2b1
     try clear p2
     try clear c3
     try clear c11
     try clear c11b0
     try clear hcz12_0
     try clear hcz12_1
     try clear hcz12_2
     try clear hcz13_0
     try clear hcz13_1
     try clear hcz13_2
     try clear hcz4_0
     try clear hcz4_1
     try clear hcz4_2
     try clear hcz4_3
     try clear hcz4_4
     try clear hcz4_5
     try clear hcz4_6
     try clear hfz12_0
     try clear hfz12_1
     try clear hfz12_2
     try clear hfz13_0
     try clear hfz13_1
     try clear hfz13_2
     try clear hfz4_0
     try clear hfz4_1
     try clear hfz4_2
     try clear hfz4_3
     try clear hfz4_4
     try clear hfz4_5
     try clear hfz4_6
     try clear p2
     obtain ⟨kq,x29_9,rfl,HA,HJ9,HO_5,HO_125000,HO_125001,BK122,BK124,HI123,HB⟩:=hcut
     cases kq with
     | zero => exact absurd HA.out (by simp [spec_ReadProfile.j1])
     | succ kj9 =>
      have H:=HA.out
      clear HA
      simp only [spec_ReadProfile.j1] at H
      by_cases c14 : x29_9 = true
      ·subst c14
       have H1 : ((spec_l5R_word.f kj9 x124000_1 x124001_1 x124002_1 x5_1).bind fun bt128 => (if bt128.1.toList = ([116,114,97,99,107,32] : List UInt8) then ((spec_l5R_num.f kj9 bt128.2.1 bt128.2.2.1 bt128.2.2.2).bind fun bt132 => ((spec_l5R_must.f kj9 bt132.2.1 bt132.2.2.1 bt132.2.2.2 (⟨#[32,98,114,97,107,101,32]⟩ : ByteArray)).bind fun bt136 => ((spec_l5R_num.f kj9 bt136.1 bt136.2.1 bt136.2.2).bind fun bt139 => (if x125000_1.length < 8796093022208 then ((spec_l5R_must.f kj9 bt139.2.1 bt139.2.2.1 bt139.2.2.2 (⟨#[10]⟩ : ByteArray)).bind fun bt149 => (spec_ReadProfile.l0 kj9 a0 (([(⟨#[116,114,97,99,107,32]⟩ : ByteArray),(⟨#[108,105,109,105,116,32]⟩ : ByteArray),(⟨#[116,114,97,105,110,32]⟩ : ByteArray)] : List ByteArray)) x6_1 bt149.1 bt149.2.1 bt149.2.2 (x125000_1 ++ [(⟨bt132.1,bt139.1⟩ : S71)]) x125001_1 x125002_1 x125003_1 x125004_1)) else (none))))) else (if bt128.1.toList = ([108,105,109,105,116,32] : List UInt8) then ((spec_l5R_num.f kj9 bt128.2.1 bt128.2.2.1 bt128.2.2.2).bind fun bt152 => ((spec_l5R_must.f kj9 bt152.2.1 bt152.2.2.1 bt152.2.2.2 (⟨#[32]⟩ : ByteArray)).bind fun bt156 => ((spec_l5R_num.f kj9 bt156.1 bt156.2.1 bt156.2.2).bind fun bt159 => ((spec_l5R_must.f kj9 bt159.2.1 bt159.2.2.1 bt159.2.2.2 (⟨#[32]⟩ : ByteArray)).bind fun bt163 => ((spec_l5R_num.f kj9 bt163.1 bt163.2.1 bt163.2.2).bind fun bt166 => (if x125001_1.length < 5864062014805 then ((spec_l5R_must.f kj9 bt166.2.1 bt166.2.2.1 bt166.2.2.2 (⟨#[10]⟩ : ByteArray)).bind fun bt176 => (spec_ReadProfile.l0 kj9 a0 (([(⟨#[108,105,109,105,116,32]⟩ : ByteArray),(⟨#[116,114,97,105,110,32]⟩ : ByteArray)] : List ByteArray)) x6_1 bt176.1 bt176.2.1 bt176.2.2 x125000_1 (x125001_1 ++ [(⟨bt152.1,bt159.1,bt166.1⟩ : S75)]) x125002_1 x125003_1 x125004_1)) else (none))))))) else (if bt128.1.toList = ([116,114,97,105,110,32] : List UInt8) then ((spec_l5R_num.f kj9 bt128.2.1 bt128.2.2.1 bt128.2.2.2).bind fun bt179 => ((spec_l5R_must.f kj9 bt179.2.1 bt179.2.2.1 bt179.2.2.2 (⟨#[32,101,110,100,32]⟩ : ByteArray)).bind fun bt183 => ((spec_l5R_num.f kj9 bt183.1 bt183.2.1 bt183.2.2).bind fun bt186 => ((spec_l5R_must.f kj9 bt186.2.1 bt186.2.2.1 bt186.2.2.2 (⟨#[32,100,101,108,97,121,32]⟩ : ByteArray)).bind fun bt190 => ((spec_l5R_num.f kj9 bt190.1 bt190.2.1 bt190.2.2).bind fun bt193 => ((spec_l5R_must.f kj9 bt193.2.1 bt193.2.2.1 bt193.2.2.2 (⟨#[10]⟩ : ByteArray)).bind fun bt197 => (spec_ReadProfile.l0 kj9 a0 x5_1 true bt197.1 bt197.2.1 bt197.2.2 x125000_1 x125001_1 bt179.1 bt186.1 bt193.1))))))) else ((spec_l5R_must.f kj9 bt128.2.1 bt128.2.2.1 bt128.2.2.2 (⟨#[10]⟩ : ByteArray)).bind fun bt200 => (spec_ReadProfile.l0 kj9 a0 x5_1 x6_1 bt200.1 bt200.2.1 bt200.2.2 x125000_1 x125001_1 x125002_1 x125003_1 x125004_1)))))) = some (r1,r2,r3,r4,r5,r6,r7):=by rw [if_pos rfl] at H;exact H
       clear H
       have H:=H1
       clear H1
       replace H:=Option.bind_eq_some_iff.mp H
       obtain ⟨⟨t128,t129,t130,t131⟩,A150,H⟩:=H
       replace H : (if t128.toList = ([116,114,97,99,107,32] : List UInt8) then ((spec_l5R_num.f kj9 t129 t130 t131).bind fun bt132 => ((spec_l5R_must.f kj9 bt132.2.1 bt132.2.2.1 bt132.2.2.2 (⟨#[32,98,114,97,107,101,32]⟩ : ByteArray)).bind fun bt136 => ((spec_l5R_num.f kj9 bt136.1 bt136.2.1 bt136.2.2).bind fun bt139 => (if x125000_1.length < 8796093022208 then ((spec_l5R_must.f kj9 bt139.2.1 bt139.2.2.1 bt139.2.2.2 (⟨#[10]⟩ : ByteArray)).bind fun bt149 => (spec_ReadProfile.l0 kj9 a0 (([(⟨#[116,114,97,99,107,32]⟩ : ByteArray),(⟨#[108,105,109,105,116,32]⟩ : ByteArray),(⟨#[116,114,97,105,110,32]⟩ : ByteArray)] : List ByteArray)) x6_1 bt149.1 bt149.2.1 bt149.2.2 (x125000_1 ++ [(⟨bt132.1,bt139.1⟩ : S71)]) x125001_1 x125002_1 x125003_1 x125004_1)) else (none))))) else (if t128.toList = ([108,105,109,105,116,32] : List UInt8) then ((spec_l5R_num.f kj9 t129 t130 t131).bind fun bt152 => ((spec_l5R_must.f kj9 bt152.2.1 bt152.2.2.1 bt152.2.2.2 (⟨#[32]⟩ : ByteArray)).bind fun bt156 => ((spec_l5R_num.f kj9 bt156.1 bt156.2.1 bt156.2.2).bind fun bt159 => ((spec_l5R_must.f kj9 bt159.2.1 bt159.2.2.1 bt159.2.2.2 (⟨#[32]⟩ : ByteArray)).bind fun bt163 => ((spec_l5R_num.f kj9 bt163.1 bt163.2.1 bt163.2.2).bind fun bt166 => (if x125001_1.length < 5864062014805 then ((spec_l5R_must.f kj9 bt166.2.1 bt166.2.2.1 bt166.2.2.2 (⟨#[10]⟩ : ByteArray)).bind fun bt176 => (spec_ReadProfile.l0 kj9 a0 (([(⟨#[108,105,109,105,116,32]⟩ : ByteArray),(⟨#[116,114,97,105,110,32]⟩ : ByteArray)] : List ByteArray)) x6_1 bt176.1 bt176.2.1 bt176.2.2 x125000_1 (x125001_1 ++ [(⟨bt152.1,bt159.1,bt166.1⟩ : S75)]) x125002_1 x125003_1 x125004_1)) else (none))))))) else (if t128.toList = ([116,114,97,105,110,32] : List UInt8) then ((spec_l5R_num.f kj9 t129 t130 t131).bind fun bt179 => ((spec_l5R_must.f kj9 bt179.2.1 bt179.2.2.1 bt179.2.2.2 (⟨#[32,101,110,100,32]⟩ : ByteArray)).bind fun bt183 => ((spec_l5R_num.f kj9 bt183.1 bt183.2.1 bt183.2.2).bind fun bt186 => ((spec_l5R_must.f kj9 bt186.2.1 bt186.2.2.1 bt186.2.2.2 (⟨#[32,100,101,108,97,121,32]⟩ : ByteArray)).bind fun bt190 => ((spec_l5R_num.f kj9 bt190.1 bt190.2.1 bt190.2.2).bind fun bt193 => ((spec_l5R_must.f kj9 bt193.2.1 bt193.2.2.1 bt193.2.2.2 (⟨#[10]⟩ : ByteArray)).bind fun bt197 => (spec_ReadProfile.l0 kj9 a0 x5_1 true bt197.1 bt197.2.1 bt197.2.2 x125000_1 x125001_1 bt179.1 bt186.1 bt193.1))))))) else ((spec_l5R_must.f kj9 t129 t130 t131 (⟨#[10]⟩ : ByteArray)).bind fun bt200 => (spec_ReadProfile.l0 kj9 a0 x5_1 x6_1 bt200.1 bt200.2.1 bt200.2.2 x125000_1 x125001_1 x125002_1 x125003_1 x125004_1))))) = some (r1,r2,r3,r4,r5,r6,r7):=H
       have A15:=Am A150
       clear A150
       by_cases c16 : t128.toList = ([116,114,97,99,107,32] : List UInt8)
       ·rw [if_pos c16] at H
        have c16b0 : (t128.toList == ([116,114,97,99,107,32] : List UInt8)) = true:=beq_iff_eq.mpr c16
        have c16b1 : (t128.toList != ([116,114,97,99,107,32] : List UInt8)) = false:=bne_eq_false_iff_eq.mpr c16
        clear c16
        replace H:=Option.bind_eq_some_iff.mp H
        obtain ⟨⟨t132,t133,t134,t135⟩,A170,H⟩:=H
        replace H : ((spec_l5R_must.f kj9 t133 t134 t135 (⟨#[32,98,114,97,107,101,32]⟩ : ByteArray)).bind fun bt136 => ((spec_l5R_num.f kj9 bt136.1 bt136.2.1 bt136.2.2).bind fun bt139 => (if x125000_1.length < 8796093022208 then ((spec_l5R_must.f kj9 bt139.2.1 bt139.2.2.1 bt139.2.2.2 (⟨#[10]⟩ : ByteArray)).bind fun bt149 => (spec_ReadProfile.l0 kj9 a0 (([(⟨#[116,114,97,99,107,32]⟩ : ByteArray),(⟨#[108,105,109,105,116,32]⟩ : ByteArray),(⟨#[116,114,97,105,110,32]⟩ : ByteArray)] : List ByteArray)) x6_1 bt149.1 bt149.2.1 bt149.2.2 (x125000_1 ++ [(⟨t132,bt139.1⟩ : S71)]) x125001_1 x125002_1 x125003_1 x125004_1)) else (none)))) = some (r1,r2,r3,r4,r5,r6,r7):=H
        have A17:=Am A170
        clear A170
        replace H:=Option.bind_eq_some_iff.mp H
        obtain ⟨⟨t136,t137,t138⟩,A180,H⟩:=H
        replace H : ((spec_l5R_num.f kj9 t136 t137 t138).bind fun bt139 => (if x125000_1.length < 8796093022208 then ((spec_l5R_must.f kj9 bt139.2.1 bt139.2.2.1 bt139.2.2.2 (⟨#[10]⟩ : ByteArray)).bind fun bt149 => (spec_ReadProfile.l0 kj9 a0 (([(⟨#[116,114,97,99,107,32]⟩ : ByteArray),(⟨#[108,105,109,105,116,32]⟩ : ByteArray),(⟨#[116,114,97,105,110,32]⟩ : ByteArray)] : List ByteArray)) x6_1 bt149.1 bt149.2.1 bt149.2.2 (x125000_1 ++ [(⟨t132,bt139.1⟩ : S71)]) x125001_1 x125002_1 x125003_1 x125004_1)) else (none))) = some (r1,r2,r3,r4,r5,r6,r7):=H
        have A18:=Am A180
        clear A180
        replace H:=Option.bind_eq_some_iff.mp H
        obtain ⟨⟨t139,t140,t141,t142⟩,A190,H⟩:=H
        replace H : (if x125000_1.length < 8796093022208 then ((spec_l5R_must.f kj9 t140 t141 t142 (⟨#[10]⟩ : ByteArray)).bind fun bt149 => (spec_ReadProfile.l0 kj9 a0 (([(⟨#[116,114,97,99,107,32]⟩ : ByteArray),(⟨#[108,105,109,105,116,32]⟩ : ByteArray),(⟨#[116,114,97,105,110,32]⟩ : ByteArray)] : List ByteArray)) x6_1 bt149.1 bt149.2.1 bt149.2.2 (x125000_1 ++ [(⟨t132,t139⟩ : S71)]) x125001_1 x125002_1 x125003_1 x125004_1)) else (none)) = some (r1,r2,r3,r4,r5,r6,r7):=H
        have A19:=Am A190
        clear A190
        by_cases c20 : x125000_1.length < 8796093022208
        ·rw [if_pos c20] at H
         have LMc20:=Am c20
         clear c20
         obtain ⟨y143,hy143⟩ : ∃ y_ : List (S71),y_ = (x125000_1 ++ [(⟨t132,t139⟩ : S71)]):=⟨_,rfl⟩
         replace H : ((spec_l5R_must.f kj9 t140 t141 t142 (⟨#[10]⟩ : ByteArray)).bind fun bt149 => (spec_ReadProfile.l0 kj9 a0 (([(⟨#[116,114,97,99,107,32]⟩ : ByteArray),(⟨#[108,105,109,105,116,32]⟩ : ByteArray),(⟨#[116,114,97,105,110,32]⟩ : ByteArray)] : List ByteArray)) x6_1 bt149.1 bt149.2.1 bt149.2.2 y143 x125001_1 x125002_1 x125003_1 x125004_1)) = some (r1,r2,r3,r4,r5,r6,r7):=by first|(rw [hy143];with_reducible exact H)|(have H2_:=(Option.bind_some _ _).symm.trans H;rw [hy143];with_reducible exact H2_)|(have H2_:=(Option.bind_some _ _).symm.trans H;with_reducible exact H2_)|with_reducible exact H|(rw [hy143];exact H)|exact H
         have Ny143:=Am hy143
         clear hy143
         obtain ⟨y146,hy146⟩ : ∃ y_ : List ByteArray,y_ = (([(⟨#[116,114,97,99,107,32]⟩ : ByteArray),(⟨#[108,105,109,105,116,32]⟩ : ByteArray),(⟨#[116,114,97,105,110,32]⟩ : ByteArray)] : List ByteArray)):=⟨_,rfl⟩
         replace H : ((spec_l5R_must.f kj9 t140 t141 t142 (⟨#[10]⟩ : ByteArray)).bind fun bt149 => (spec_ReadProfile.l0 kj9 a0 y146 x6_1 bt149.1 bt149.2.1 bt149.2.2 y143 x125001_1 x125002_1 x125003_1 x125004_1)) = some (r1,r2,r3,r4,r5,r6,r7):=by first|(rw [hy146];with_reducible exact H)|(have H2_:=(Option.bind_some _ _).symm.trans H;rw [hy146];with_reducible exact H2_)|(have H2_:=(Option.bind_some _ _).symm.trans H;with_reducible exact H2_)|with_reducible exact H|(rw [hy146];exact H)|exact H
         have Ny146:=Am hy146
         clear hy146
         replace H:=Option.bind_eq_some_iff.mp H
         obtain ⟨⟨t149,t150,t151⟩,A210,H⟩:=H
         replace H : (spec_ReadProfile.l0 kj9 a0 y146 x6_1 t149 t150 t151 y143 x125001_1 x125002_1 x125003_1 x125004_1) = some (r1,r2,r3,r4,r5,r6,r7):=H
         have A21:=Am A210
         clear A210
         have H':=Am H
         clear H
         obtain ⟨Ao22,co22,eo22⟩:=Kd.R_slice HO_5.out
         subst eo22
         go_wp2_with (first|((with_reducible refine gate_callee (f:=87) rfl ?_);refine goesL_ (some 32) rfl rfl Try.func87 (by kernel_rfl) rfl #[.pointer (some ⟨gb123,0,none⟩),.slice Ao22 x5_1.length co22] rfl (by (try simp only [List.map_toArray,List.map_cons,List.map_nil]);first|done|rfl|(simp only [List.length_drop,List.length_take];rfl)) ?_;(with_reducible refine (spec_l5R_word.calls kj9 gb123 x124000_1 x124001_1 x124002_1 _ _ x5_1 t128 t129 t130 t131 w _ ?side1 ?side2 ?side3 ?side4 ?side5 A15.out).mono ?_);(case side1 => repeat (first|(with_reducible first|exact HI123.out|apply IsS90.alloc|apply IsS90.drewN|apply IsS90.drew|apply IsS90.set_0|apply IsS90.set_1|apply IsS90.set_2|refine IsS90.far ?_ NB123_122.out _|refine IsS90.far ?_ NB123_124.out _)|exact HI123.out));(case side2 => repeat (first|(with_reducible first|exact HB.out|apply bA|apply bN|apply bD|refine bS ?_ (IsS90.ge HI123.out)|refine bS ?_ GE122.out|refine bS ?_ GE124.out)|exact HB.out));(case side3 => repeat (first|exact (Kd.R_reads' HO_5.out).2.2|(with_reducible refine Kd.C_alloc ?_ _)|(with_reducible refine Kd.C_drewN ?_ _)|(with_reducible refine Kd.C_drew ?_)));(case side4 => exact (Kd.R_reads' HO_5.out).2.1);(case side5 => exact far_slice (IsS90.own_ne HI123.out HO_5.out (by decide)));rintro e w23 ⟨rfl,hi,hb,hk⟩;refine ⟨_,rfl,?_⟩;have n0_:=Am (Kd.R_mono (Kd.R_keep (IsS90.apart (show IsS90 w _ gb123 x124000_1 x124001_1 x124002_1 from by repeat (first|(with_reducible first|exact HI123.out|apply IsS90.alloc|apply IsS90.drewN|apply IsS90.drew|apply IsS90.set_0|apply IsS90.set_1|apply IsS90.set_2|refine IsS90.far ?_ NB123_122.out _|refine IsS90.far ?_ NB123_124.out _)|exact HI123.out)) (by (with_reducible repeat (first|apply Kd.R_alloc|apply Kd.R_drewN|apply Kd.R_drew));exact HO_5.out) (by decide)) hk (fun _ h => h.2)) (fun _ h => h.1));have n1_:=Am (Kd.R_mono (Kd.R_keep (IsS90.apart (show IsS90 w _ gb123 x124000_1 x124001_1 x124002_1 from by repeat (first|(with_reducible first|exact HI123.out|apply IsS90.alloc|apply IsS90.drewN|apply IsS90.drew|apply IsS90.set_0|apply IsS90.set_1|apply IsS90.set_2|refine IsS90.far ?_ NB123_122.out _|refine IsS90.far ?_ NB123_124.out _)|exact HI123.out)) (by (with_reducible repeat (first|apply Kd.R_alloc|apply Kd.R_drewN|apply Kd.R_drew));exact HO_125000.out) (by decide)) hk (fun _ h => h.2)) (fun _ h => h.1));have n2_:=Am (Kd.R_mono (Kd.R_keep (IsS90.apart (show IsS90 w _ gb123 x124000_1 x124001_1 x124002_1 from by repeat (first|(with_reducible first|exact HI123.out|apply IsS90.alloc|apply IsS90.drewN|apply IsS90.drew|apply IsS90.set_0|apply IsS90.set_1|apply IsS90.set_2|refine IsS90.far ?_ NB123_122.out _|refine IsS90.far ?_ NB123_124.out _)|exact HI123.out)) (by (with_reducible repeat (first|apply Kd.R_alloc|apply Kd.R_drewN|apply Kd.R_drew));exact HO_125001.out) (by decide)) hk (fun _ h => h.2)) (fun _ h => h.1));have n3_:=Am (KeepBut.blk hk (g':=gb122) (o:=.cells #[.int .i64 0,.int .i64 0,.slice none 0 0,.slice none 0 0,.int .i64 0,.int .i64 0,.int .i64 0] 46 (0,0)) (by (with_reducible repeat (first|refine kN ?_ _|refine kD ?_|refine kA ?_ _));exact BK122.out) NB122_123.out (by simp));have n4_:=Am (KeepBut.blk hk (g':=gb124) (o:=.cells #[u125000,u125001,.int .i64 x125002_1,.int .i64 x125003_1,.int .i64 x125004_1] 31 (0,0)) (by (with_reducible repeat (first|refine kN ?_ _|refine kD ?_|refine kA ?_ _));exact BK124.out) NB124_123.out (by simp));have n5_:=Am (hb);have n6_:=Am (hi);clear HO_5;clear HO_125000;clear HO_125001;clear BK122;clear BK124;clear HB;clear HI123;have HO_5:=n0_;have HO_125000:=n1_;have HO_125001:=n2_;have BK122:=n3_;have BK124:=n4_;have HB:=n5_;have HI123:=n6_;clear n0_ n1_ n2_ n3_ n4_ n5_ n6_;(try clear hb);(try clear hb2);(try clear hk);(try clear hi))|((with_reducible refine gate_callee (f:=88) rfl ?_);refine goesL_ (some 36) rfl rfl Try.func88 (by kernel_rfl) rfl #[.pointer (some ⟨gb123,0,none⟩)] rfl (by (try simp only [List.map_toArray,List.map_cons,List.map_nil]);first|done|rfl|(simp only [List.length_drop,List.length_take];rfl)) ?_;(with_reducible refine (spec_l5R_num.calls kj9 gb123 t129 t130 t131 t132 t133 t134 t135 w _ ?side1 ?side2 A17.out).mono ?_);(case side1 => repeat (first|(with_reducible first|exact HI123.out|apply IsS90.alloc|apply IsS90.drewN|apply IsS90.drew|apply IsS90.set_0|apply IsS90.set_1|apply IsS90.set_2|refine IsS90.far ?_ NB123_122.out _|refine IsS90.far ?_ NB123_124.out _)|exact HI123.out));(case side2 => repeat (first|(with_reducible first|exact HB.out|apply bA|apply bN|apply bD|refine bS ?_ (IsS90.ge HI123.out)|refine bS ?_ GE122.out|refine bS ?_ GE124.out)|exact HB.out));rintro e w24 ⟨rfl,hi,hb,hk⟩;refine ⟨_,rfl,?_⟩;have n0_:=Am (Kd.R_mono (Kd.R_keep (IsS90.apart (show IsS90 w _ gb123 t129 t130 t131 from by repeat (first|(with_reducible first|exact HI123.out|apply IsS90.alloc|apply IsS90.drewN|apply IsS90.drew|apply IsS90.set_0|apply IsS90.set_1|apply IsS90.set_2|refine IsS90.far ?_ NB123_122.out _|refine IsS90.far ?_ NB123_124.out _)|exact HI123.out)) (by (with_reducible repeat (first|apply Kd.R_alloc|apply Kd.R_drewN|apply Kd.R_drew));exact HO_5.out) (by decide)) hk (fun _ h => h.2)) (fun _ h => h.1));have n1_:=Am (Kd.R_mono (Kd.R_keep (IsS90.apart (show IsS90 w _ gb123 t129 t130 t131 from by repeat (first|(with_reducible first|exact HI123.out|apply IsS90.alloc|apply IsS90.drewN|apply IsS90.drew|apply IsS90.set_0|apply IsS90.set_1|apply IsS90.set_2|refine IsS90.far ?_ NB123_122.out _|refine IsS90.far ?_ NB123_124.out _)|exact HI123.out)) (by (with_reducible repeat (first|apply Kd.R_alloc|apply Kd.R_drewN|apply Kd.R_drew));exact HO_125000.out) (by decide)) hk (fun _ h => h.2)) (fun _ h => h.1));have n2_:=Am (Kd.R_mono (Kd.R_keep (IsS90.apart (show IsS90 w _ gb123 t129 t130 t131 from by repeat (first|(with_reducible first|exact HI123.out|apply IsS90.alloc|apply IsS90.drewN|apply IsS90.drew|apply IsS90.set_0|apply IsS90.set_1|apply IsS90.set_2|refine IsS90.far ?_ NB123_122.out _|refine IsS90.far ?_ NB123_124.out _)|exact HI123.out)) (by (with_reducible repeat (first|apply Kd.R_alloc|apply Kd.R_drewN|apply Kd.R_drew));exact HO_125001.out) (by decide)) hk (fun _ h => h.2)) (fun _ h => h.1));have n3_:=Am (KeepBut.blk hk (g':=gb122) (o:=.cells #[.int .i64 0,.int .i64 0,.slice none 0 0,.slice none 0 0,.int .i64 0,.int .i64 0,.int .i64 0] 46 (0,0)) (by (with_reducible repeat (first|refine kN ?_ _|refine kD ?_|refine kA ?_ _));exact BK122.out) NB122_123.out (by simp));have n4_:=Am (KeepBut.blk hk (g':=gb124) (o:=.cells #[u125000,u125001,.int .i64 x125002_1,.int .i64 x125003_1,.int .i64 x125004_1] 31 (0,0)) (by (with_reducible repeat (first|refine kN ?_ _|refine kD ?_|refine kA ?_ _));exact BK124.out) NB124_123.out (by simp));have n5_:=Am (hb);have n6_:=Am (hi);clear HO_5;clear HO_125000;clear HO_125001;clear BK122;clear BK124;clear HB;clear HI123;have HO_5:=n0_;have HO_125000:=n1_;have HO_125001:=n2_;have BK122:=n3_;have BK124:=n4_;have HB:=n5_;have HI123:=n6_;clear n0_ n1_ n2_ n3_ n4_ n5_ n6_;(try clear hb);(try clear hb2);(try clear hk);(try clear hi))|((with_reducible refine gate_callee (f:=89) rfl ?_);refine goesL_ (some 38) rfl rfl Try.func89 (by kernel_rfl) rfl #[.pointer (some ⟨gb123,0,none⟩),.string (⟨#[32,98,114,97,107,101,32]⟩ : ByteArray)] rfl (by (try simp only [List.map_toArray,List.map_cons,List.map_nil]);first|done|rfl|(simp only [List.length_drop,List.length_take];rfl)) ?_;(with_reducible refine (spec_l5R_must.calls kj9 gb123 t133 t134 t135 (⟨#[32,98,114,97,107,101,32]⟩ : ByteArray) t136 t137 t138 w _ ?side1 ?side2 A18.out).mono ?_);(case side1 => repeat (first|(with_reducible first|exact HI123.out|apply IsS90.alloc|apply IsS90.drewN|apply IsS90.drew|apply IsS90.set_0|apply IsS90.set_1|apply IsS90.set_2|refine IsS90.far ?_ NB123_122.out _|refine IsS90.far ?_ NB123_124.out _)|exact HI123.out));(case side2 => repeat (first|(with_reducible first|exact HB.out|apply bA|apply bN|apply bD|refine bS ?_ (IsS90.ge HI123.out)|refine bS ?_ GE122.out|refine bS ?_ GE124.out)|exact HB.out));rintro e w25 ⟨rfl,hi,hb,hk⟩;refine ⟨_,rfl,?_⟩;have n0_:=Am (Kd.R_mono (Kd.R_keep (IsS90.apart (show IsS90 w _ gb123 t133 t134 t135 from by repeat (first|(with_reducible first|exact HI123.out|apply IsS90.alloc|apply IsS90.drewN|apply IsS90.drew|apply IsS90.set_0|apply IsS90.set_1|apply IsS90.set_2|refine IsS90.far ?_ NB123_122.out _|refine IsS90.far ?_ NB123_124.out _)|exact HI123.out)) (by (with_reducible repeat (first|apply Kd.R_alloc|apply Kd.R_drewN|apply Kd.R_drew));exact HO_5.out) (by decide)) hk (fun _ h => h.2)) (fun _ h => h.1));have n1_:=Am (Kd.R_mono (Kd.R_keep (IsS90.apart (show IsS90 w _ gb123 t133 t134 t135 from by repeat (first|(with_reducible first|exact HI123.out|apply IsS90.alloc|apply IsS90.drewN|apply IsS90.drew|apply IsS90.set_0|apply IsS90.set_1|apply IsS90.set_2|refine IsS90.far ?_ NB123_122.out _|refine IsS90.far ?_ NB123_124.out _)|exact HI123.out)) (by (with_reducible repeat (first|apply Kd.R_alloc|apply Kd.R_drewN|apply Kd.R_drew));exact HO_125000.out) (by decide)) hk (fun _ h => h.2)) (fun _ h => h.1));have n2_:=Am (Kd.R_mono (Kd.R_keep (IsS90.apart (show IsS90 w _ gb123 t133 t134 t135 from by repeat (first|(with_reducible first|exact HI123.out|apply IsS90.alloc|apply IsS90.drewN|apply IsS90.drew|apply IsS90.set_0|apply IsS90.set_1|apply IsS90.set_2|refine IsS90.far ?_ NB123_122.out _|refine IsS90.far ?_ NB123_124.out _)|exact HI123.out)) (by (with_reducible repeat (first|apply Kd.R_alloc|apply Kd.R_drewN|apply Kd.R_drew));exact HO_125001.out) (by decide)) hk (fun _ h => h.2)) (fun _ h => h.1));have n3_:=Am (KeepBut.blk hk (g':=gb122) (o:=.cells #[.int .i64 0,.int .i64 0,.slice none 0 0,.slice none 0 0,.int .i64 0,.int .i64 0,.int .i64 0] 46 (0,0)) (by (with_reducible repeat (first|refine kN ?_ _|refine kD ?_|refine kA ?_ _));exact BK122.out) NB122_123.out (by simp));have n4_:=Am (KeepBut.blk hk (g':=gb124) (o:=.cells #[u125000,u125001,.int .i64 x125002_1,.int .i64 x125003_1,.int .i64 x125004_1] 31 (0,0)) (by (with_reducible repeat (first|refine kN ?_ _|refine kD ?_|refine kA ?_ _));exact BK124.out) NB124_123.out (by simp));have n5_:=Am (hb);have n6_:=Am (hi);clear HO_5;clear HO_125000;clear HO_125001;clear BK122;clear BK124;clear HB;clear HI123;have HO_5:=n0_;have HO_125000:=n1_;have HO_125001:=n2_;have BK122:=n3_;have BK124:=n4_;have HB:=n5_;have HI123:=n6_;clear n0_ n1_ n2_ n3_ n4_ n5_ n6_;(try clear hb);(try clear hb2);(try clear hk);(try clear hi))|((with_reducible refine gate_callee (f:=88) rfl ?_);refine goesL_ (some 40) rfl rfl Try.func88 (by kernel_rfl) rfl #[.pointer (some ⟨gb123,0,none⟩)] rfl (by (try simp only [List.map_toArray,List.map_cons,List.map_nil]);first|done|rfl|(simp only [List.length_drop,List.length_take];rfl)) ?_;(with_reducible refine (spec_l5R_num.calls kj9 gb123 t136 t137 t138 t139 t140 t141 t142 w _ ?side1 ?side2 A19.out).mono ?_);(case side1 => repeat (first|(with_reducible first|exact HI123.out|apply IsS90.alloc|apply IsS90.drewN|apply IsS90.drew|apply IsS90.set_0|apply IsS90.set_1|apply IsS90.set_2|refine IsS90.far ?_ NB123_122.out _|refine IsS90.far ?_ NB123_124.out _)|exact HI123.out));(case side2 => repeat (first|(with_reducible first|exact HB.out|apply bA|apply bN|apply bD|refine bS ?_ (IsS90.ge HI123.out)|refine bS ?_ GE122.out|refine bS ?_ GE124.out)|exact HB.out));rintro e w26 ⟨rfl,hi,hb,hk⟩;refine ⟨_,rfl,?_⟩;have n0_:=Am (Kd.R_mono (Kd.R_keep (IsS90.apart (show IsS90 w _ gb123 t136 t137 t138 from by repeat (first|(with_reducible first|exact HI123.out|apply IsS90.alloc|apply IsS90.drewN|apply IsS90.drew|apply IsS90.set_0|apply IsS90.set_1|apply IsS90.set_2|refine IsS90.far ?_ NB123_122.out _|refine IsS90.far ?_ NB123_124.out _)|exact HI123.out)) (by (with_reducible repeat (first|apply Kd.R_alloc|apply Kd.R_drewN|apply Kd.R_drew));exact HO_5.out) (by decide)) hk (fun _ h => h.2)) (fun _ h => h.1));have n1_:=Am (Kd.R_mono (Kd.R_keep (IsS90.apart (show IsS90 w _ gb123 t136 t137 t138 from by repeat (first|(with_reducible first|exact HI123.out|apply IsS90.alloc|apply IsS90.drewN|apply IsS90.drew|apply IsS90.set_0|apply IsS90.set_1|apply IsS90.set_2|refine IsS90.far ?_ NB123_122.out _|refine IsS90.far ?_ NB123_124.out _)|exact HI123.out)) (by (with_reducible repeat (first|apply Kd.R_alloc|apply Kd.R_drewN|apply Kd.R_drew));exact HO_125000.out) (by decide)) hk (fun _ h => h.2)) (fun _ h => h.1));have n2_:=Am (Kd.R_mono (Kd.R_keep (IsS90.apart (show IsS90 w _ gb123 t136 t137 t138 from by repeat (first|(with_reducible first|exact HI123.out|apply IsS90.alloc|apply IsS90.drewN|apply IsS90.drew|apply IsS90.set_0|apply IsS90.set_1|apply IsS90.set_2|refine IsS90.far ?_ NB123_122.out _|refine IsS90.far ?_ NB123_124.out _)|exact HI123.out)) (by (with_reducible repeat (first|apply Kd.R_alloc|apply Kd.R_drewN|apply Kd.R_drew));exact HO_125001.out) (by decide)) hk (fun _ h => h.2)) (fun _ h => h.1));have n3_:=Am (KeepBut.blk hk (g':=gb122) (o:=.cells #[.int .i64 0,.int .i64 0,.slice none 0 0,.slice none 0 0,.int .i64 0,.int .i64 0,.int .i64 0] 46 (0,0)) (by (with_reducible repeat (first|refine kN ?_ _|refine kD ?_|refine kA ?_ _));exact BK122.out) NB122_123.out (by simp));have n4_:=Am (KeepBut.blk hk (g':=gb124) (o:=.cells #[u125000,u125001,.int .i64 x125002_1,.int .i64 x125003_1,.int .i64 x125004_1] 31 (0,0)) (by (with_reducible repeat (first|refine kN ?_ _|refine kD ?_|refine kA ?_ _));exact BK124.out) NB124_123.out (by simp));have n5_:=Am (hb);have n6_:=Am (hi);clear HO_5;clear HO_125000;clear HO_125001;clear BK122;clear BK124;clear HB;clear HI123;have HO_5:=n0_;have HO_125000:=n1_;have HO_125001:=n2_;have BK122:=n3_;have BK124:=n4_;have HB:=n5_;have HI123:=n6_;clear n0_ n1_ n2_ n3_ n4_ n5_ n6_;(try clear hb);(try clear hb2);(try clear hk);(try clear hi);have hnb27:=NB124_122.out;have hnc27:=NB122_124.out;have hnb28:=NB124_123.out;have hnc28:=NB123_124.out;have hcz29_0 : w26.cell? ⟨gb124,0,none⟩ = some (u125000):=(kC BK124.out 0).trans rfl;have hcz29_1 : w26.cell? ⟨gb124,1,none⟩ = some (u125001):=(kC BK124.out 1).trans rfl;have hcz29_2 : w26.cell? ⟨gb124,2,none⟩ = some (.int .i64 x125002_1):=(kC BK124.out 2).trans rfl;have hcz29_3 : w26.cell? ⟨gb124,3,none⟩ = some (.int .i64 x125003_1):=(kC BK124.out 3).trans rfl;have hcz29_4 : w26.cell? ⟨gb124,4,none⟩ = some (.int .i64 x125004_1):=(kC BK124.out 4).trans rfl;have hfz29_0:=kF BK124.out 0;have hfz29_1:=kF BK124.out 1;have hfz29_2:=kF BK124.out 2;have hfz29_3:=kF BK124.out 3;have hfz29_4:=kF BK124.out 4)|((with_reducible refine gate_builtin (b:=.append) (xs:=#[.tmp 42,.tmp 46]) rfl ?_);(try (refine gate_guard (by rfl) ?_;dsimp only));at_builtin;refine Kd.R_append k71 (w0:=w) w.heap.size rfl (.tmp 42) (.tmp 46) 28 71 (.agg #[(.int .i64 0),(.int .i64 0)]) 16 rfl Try.underlying28 info71 rfl (by decide) (by omega) u125000 x125000_1 (⟨t132,t139⟩ : S71) [.int .i64 t132,.int .i64 t139] (fun _ => True) (fun _ => False) rfl rfl ?aP (fun _ hk => hk.elim) ?aF ?aO ?aB ?aS ?aL ?_;(case aP => exact k71_mkM _ _ _ (⟨t132,t139⟩ : S71));(case aB => exact (by repeat (first|(with_reducible first|exact HB.out|apply bA|apply bN|apply bD|refine bS ?_ (IsS90.ge HI123.out)|refine bS ?_ GE122.out|refine bS ?_ GE124.out)|exact HB.out)));(case aF => exact (fun _ _ => trivial));(case aO => exact (by (with_reducible repeat (first|apply Kd.R_alloc|apply Kd.R_drewN|apply Kd.R_drew));exact HO_125000.out));(case aS => exact (below_size (by repeat (first|(with_reducible first|exact HB.out|apply bA|apply bN|apply bD|refine bS ?_ (IsS90.ge HI123.out)|refine bS ?_ GE122.out|refine bS ?_ GE124.out)|exact HB.out))));(case aL => have:=LMc20.out;omega);intro v144 w30 ho hb hg hat;rw [← Ny143.out] at ho;have n0_:=Am (Kd.R_over' (by (with_reducible repeat (first|apply Kd.R_alloc|apply Kd.R_drewN|apply Kd.R_drew));exact HO_5.out) (Kd.R_typed (by (with_reducible repeat (first|apply Kd.R_alloc|apply Kd.R_drewN|apply Kd.R_drew));exact HO_125000.out)) (by decide) hg);have n1_:=Am (Kd.R_over' (by (with_reducible repeat (first|apply Kd.R_alloc|apply Kd.R_drewN|apply Kd.R_drew));exact HO_125001.out) (Kd.R_typed (by (with_reducible repeat (first|apply Kd.R_alloc|apply Kd.R_drewN|apply Kd.R_drew));exact HO_125000.out)) (by decide) hg);have n2_:=Am (blk_grown (g:=gb122) (o:=.cells #[.int .i64 0,.int .i64 0,.slice none 0 0,.slice none 0 0,.int .i64 0,.int .i64 0,.int .i64 0] 46 (0,0)) (by (with_reducible repeat (first|refine kN ?_ _|refine kD ?_|refine kA ?_ _));exact BK122.out) hg (Kd.R_ne HO_125000.out BK122.out (by decide)));have n3_:=Am (blk_grown (g:=gb124) (o:=.cells #[u125000,u125001,.int .i64 x125002_1,.int .i64 x125003_1,.int .i64 x125004_1] 31 (0,0)) (by (with_reducible repeat (first|refine kN ?_ _|refine kD ?_|refine kA ?_ _));exact BK124.out) hg (Kd.R_ne HO_125000.out BK124.out (by decide)));have n4_:=Am (IsS90.grown (show IsS90 w _ gb123 t140 t141 t142 from by repeat (first|(with_reducible first|exact HI123.out|apply IsS90.alloc|apply IsS90.drewN|apply IsS90.drew|apply IsS90.set_0|apply IsS90.set_1|apply IsS90.set_2|refine IsS90.far ?_ NB123_122.out _|refine IsS90.far ?_ NB123_124.out _)|exact HI123.out)) hg (IsS90.own_ne HI123.out HO_125000.out (by decide)));have n5_:=Am (hb);have n6_:=Am (ho);clear HO_5;clear HO_125001;clear BK122;clear BK124;clear HI123;clear HB;clear HO_125000;have HO_5:=n0_;have HO_125001:=n1_;have BK122:=n2_;have BK124:=n3_;have HI123:=n4_;have HB:=n5_;have HO145:=n6_;clear n0_ n1_ n2_ n3_ n4_ n5_ n6_;clear ho hb hg hat;obtain ⟨Ao31,co31,eo31⟩:=Kd.R_slice HO145.out;subst eo31;have hcz32_0 : w30.cell? ⟨gb124,0,none⟩ = some (u125000):=(kC BK124.out 0).trans rfl;have hcz32_1 : w30.cell? ⟨gb124,1,none⟩ = some (u125001):=(kC BK124.out 1).trans rfl;have hcz32_2 : w30.cell? ⟨gb124,2,none⟩ = some (.int .i64 x125002_1):=(kC BK124.out 2).trans rfl;have hcz32_3 : w30.cell? ⟨gb124,3,none⟩ = some (.int .i64 x125003_1):=(kC BK124.out 3).trans rfl;have hcz32_4 : w30.cell? ⟨gb124,4,none⟩ = some (.int .i64 x125004_1):=(kC BK124.out 4).trans rfl;have hfz32_0:=kF BK124.out 0;have hfz32_1:=kF BK124.out 1;have hfz32_2:=kF BK124.out 2;have hfz32_3:=kF BK124.out 3;have hfz32_4:=kF BK124.out 4)|((with_reducible refine gate_dst (N:=49) rfl ?_);(try (refine gate_guard (by rfl) ?_;dsimp only));refine Kd.R_lit Kd.string _ 9 ?hg (N:=49) ?hd (xs:=([(⟨#[116,114,97,99,107,32]⟩ : ByteArray),(⟨#[108,105,109,105,116,32]⟩ : ByteArray),(⟨#[116,114,97,105,110,32]⟩ : ByteArray)] : List ByteArray)) (inner:=[.string (⟨#[116,114,97,99,107,32]⟩ : ByteArray),.string (⟨#[108,105,109,105,116,32]⟩ : ByteArray),.string (⟨#[116,114,97,105,110,32]⟩ : ByteArray)]) (ok:=fun _ => True) (okp:=fun _ => True) ?hr ?hp (fun _ hk => hk) trivial (Below.refl _ _) (Nat.le_refl _) (by simp) ?_;(case hd => rfl);(case hg => rfl);(case hr => first|(go_simp;done)|(go_simp;rfl));(case hp => exact (Reps.one (show Kd.M Kd.string _ _ _ (⟨#[116,114,97,99,107,32]⟩ : ByteArray) [.string (⟨#[116,114,97,99,107,32]⟩ : ByteArray)] from rfl) (Reps.one (show Kd.M Kd.string _ _ _ (⟨#[108,105,109,105,116,32]⟩ : ByteArray) [.string (⟨#[108,105,109,105,116,32]⟩ : ByteArray)] from rfl) (Reps.one (show Kd.M Kd.string _ _ _ (⟨#[116,114,97,105,110,32]⟩ : ByteArray) [.string (⟨#[116,114,97,105,110,32]⟩ : ByteArray)] from rfl) (Reps.none _ _)))));intro v147 w33 ho34 hb hg_ hnew_;clear hg_ hnew_;(first|rw [← Ny146.out] at ho34|(simp only [Int.reduceToNat] at ho34;rw [← Ny146.out] at ho34));have n0_:=Am (Kd.R_elder' (by (with_reducible repeat (first|apply Kd.R_alloc|apply Kd.R_drewN|apply Kd.R_drew));exact (Kd.R_mono (Kd.R_far (p:=⟨gb124,0,none⟩) (Kd.R_types HO_5.out BK124.out (by decide)) (fun _ hk => hk.2) (.slice Ao31 y143.length co31)) (fun _ h_ => h_.1))) (Kd.R_base ho34) hb);have n1_:=Am (Kd.R_below (by (with_reducible repeat (first|apply Kd.R_alloc|apply Kd.R_drewN|apply Kd.R_drew));exact (Kd.R_mono (Kd.R_far (p:=⟨gb124,0,none⟩) (Kd.R_types HO_125001.out BK124.out (by decide)) (fun _ hk => hk.2) (.slice Ao31 y143.length co31)) (fun _ h_ => h_.1))) hb);have n2_:=Am (Kd.R_below (by (with_reducible repeat (first|apply Kd.R_alloc|apply Kd.R_drewN|apply Kd.R_drew));exact (Kd.R_mono (Kd.R_far (p:=⟨gb124,0,none⟩) (Kd.R_types HO145.out BK124.out (by decide)) (fun _ hk => hk.2) (.slice Ao31 y143.length co31)) (fun _ h_ => h_.1))) hb);have n3_:=Am (Kd.R_lower (Kd.R_new' ho34 (Kd.R_lt (by (with_reducible repeat (first|apply Kd.R_alloc|apply Kd.R_drewN|apply Kd.R_drew));exact (Kd.R_mono (Kd.R_far (p:=⟨gb124,0,none⟩) (Kd.R_types HO_5.out BK124.out (by decide)) (fun _ hk => hk.2) (.slice Ao31 y143.length co31)) (fun _ h_ => h_.1))))) (below_size (by repeat (first|(with_reducible first|exact HB.out|apply bA|apply bN|apply bD|refine bS ?_ (IsS90.ge HI123.out)|refine bS ?_ GE122.out|refine bS ?_ GE124.out)|exact HB.out))));have n4_:=Am (blk_below (g:=gb122) (o:=.cells #[.int .i64 0,.int .i64 0,.slice none 0 0,.slice none 0 0,.int .i64 0,.int .i64 0,.int .i64 0] 46 (0,0)) (by (with_reducible repeat (first|refine kN ?_ _|refine kD ?_|refine kA ?_ _));refine blk_far ?_ NB122_124.out _;(with_reducible repeat (first|refine kN ?_ _|refine kD ?_|refine kA ?_ _));exact BK122.out) hb);have n5_:=Am (blk_below (g:=gb124) (o:=.cells #[.slice Ao31 y143.length co31,u125001,.int .i64 x125002_1,.int .i64 x125003_1,.int .i64 x125004_1] 31 (0,0)) (by (with_reducible repeat (first|refine kN ?_ _|refine kD ?_|refine kA ?_ _));refine blk_put (cs:=#[u125000,u125001,.int .i64 x125002_1,.int .i64 x125003_1,.int .i64 x125004_1]) ?_ 0 _ rfl;(with_reducible repeat (first|refine kN ?_ _|refine kD ?_|refine kA ?_ _));exact BK124.out) hb);have n6_:=Am (IsS90.below (show IsS90 w (w30.setCell ⟨gb124,0,none⟩ (.slice Ao31 y143.length co31)) gb123 t140 t141 t142 from by repeat (first|(with_reducible first|exact HI123.out|apply IsS90.alloc|apply IsS90.drewN|apply IsS90.drew|apply IsS90.set_0|apply IsS90.set_1|apply IsS90.set_2|refine IsS90.far ?_ NB123_122.out _|refine IsS90.far ?_ NB123_124.out _)|exact HI123.out)) hb);have n7_:=Am (below_step (by repeat (first|(with_reducible first|exact HB.out|apply bA|apply bN|apply bD|refine bS ?_ (IsS90.ge HI123.out)|refine bS ?_ GE122.out|refine bS ?_ GE124.out)|exact HB.out)) hb);clear HO_5;clear HO_125001;clear HO145;clear BK122;clear BK124;clear HI123;clear HB;have HO_5:=n0_;have HO_125001:=n1_;have HO145:=n2_;have HO148:=n3_;have BK122:=n4_;have BK124:=n5_;have HI123:=n6_;have HB:=n7_;clear n0_ n1_ n2_ n3_ n4_ n5_ n6_ n7_;clear hb ho34)|((with_reducible refine gate_callee (f:=89) rfl ?_);refine goesL_ (some 88) rfl rfl Try.func89 (by kernel_rfl) rfl #[.pointer (some ⟨gb123,0,none⟩),.string (⟨#[10]⟩ : ByteArray)] rfl (by (try simp only [List.map_toArray,List.map_cons,List.map_nil]);first|done|rfl|(simp only [List.length_drop,List.length_take];rfl)) ?_;(with_reducible refine (spec_l5R_must.calls kj9 gb123 t140 t141 t142 (⟨#[10]⟩ : ByteArray) t149 t150 t151 w _ ?side1 ?side2 A21.out).mono ?_);(case side1 => repeat (first|(with_reducible first|exact HI123.out|apply IsS90.alloc|apply IsS90.drewN|apply IsS90.drew|apply IsS90.set_0|apply IsS90.set_1|apply IsS90.set_2|refine IsS90.far ?_ NB123_122.out _|refine IsS90.far ?_ NB123_124.out _)|exact HI123.out));(case side2 => repeat (first|(with_reducible first|exact HB.out|apply bA|apply bN|apply bD|refine bS ?_ (IsS90.ge HI123.out)|refine bS ?_ GE122.out|refine bS ?_ GE124.out)|exact HB.out));rintro e w35 ⟨rfl,hi,hb,hk⟩;refine ⟨_,rfl,?_⟩;have n0_:=Am (Kd.R_mono (Kd.R_keep (IsS90.apart (show IsS90 w _ gb123 t140 t141 t142 from by repeat (first|(with_reducible first|exact HI123.out|apply IsS90.alloc|apply IsS90.drewN|apply IsS90.drew|apply IsS90.set_0|apply IsS90.set_1|apply IsS90.set_2|refine IsS90.far ?_ NB123_122.out _|refine IsS90.far ?_ NB123_124.out _)|exact HI123.out)) (by (with_reducible repeat (first|apply Kd.R_alloc|apply Kd.R_drewN|apply Kd.R_drew));exact HO_5.out) (by decide)) hk (fun _ h => h.2)) (fun _ h => h.1));have n1_:=Am (Kd.R_mono (Kd.R_keep (IsS90.apart (show IsS90 w _ gb123 t140 t141 t142 from by repeat (first|(with_reducible first|exact HI123.out|apply IsS90.alloc|apply IsS90.drewN|apply IsS90.drew|apply IsS90.set_0|apply IsS90.set_1|apply IsS90.set_2|refine IsS90.far ?_ NB123_122.out _|refine IsS90.far ?_ NB123_124.out _)|exact HI123.out)) (by (with_reducible repeat (first|apply Kd.R_alloc|apply Kd.R_drewN|apply Kd.R_drew));exact HO_125001.out) (by decide)) hk (fun _ h => h.2)) (fun _ h => h.1));have n2_:=Am (KeepBut.blk hk (g':=gb122) (o:=.cells #[.int .i64 0,.int .i64 0,.slice none 0 0,.slice none 0 0,.int .i64 0,.int .i64 0,.int .i64 0] 46 (0,0)) (by (with_reducible repeat (first|refine kN ?_ _|refine kD ?_|refine kA ?_ _));exact BK122.out) NB122_123.out (by simp));have n3_:=Am (KeepBut.blk hk (g':=gb124) (o:=.cells #[.slice Ao31 y143.length co31,u125001,.int .i64 x125002_1,.int .i64 x125003_1,.int .i64 x125004_1] 31 (0,0)) (by (with_reducible repeat (first|refine kN ?_ _|refine kD ?_|refine kA ?_ _));exact BK124.out) NB124_123.out (by simp));have n4_:=Am (Kd.R_mono (Kd.R_keep (IsS90.apart (show IsS90 w _ gb123 t140 t141 t142 from by repeat (first|(with_reducible first|exact HI123.out|apply IsS90.alloc|apply IsS90.drewN|apply IsS90.drew|apply IsS90.set_0|apply IsS90.set_1|apply IsS90.set_2|refine IsS90.far ?_ NB123_122.out _|refine IsS90.far ?_ NB123_124.out _)|exact HI123.out)) (by (with_reducible repeat (first|apply Kd.R_alloc|apply Kd.R_drewN|apply Kd.R_drew));exact HO145.out) (by decide)) hk (fun _ h => h.2)) (fun _ h => h.1));have n5_:=Am (Kd.R_mono (Kd.R_keep (IsS90.apart (show IsS90 w _ gb123 t140 t141 t142 from by repeat (first|(with_reducible first|exact HI123.out|apply IsS90.alloc|apply IsS90.drewN|apply IsS90.drew|apply IsS90.set_0|apply IsS90.set_1|apply IsS90.set_2|refine IsS90.far ?_ NB123_122.out _|refine IsS90.far ?_ NB123_124.out _)|exact HI123.out)) (by (with_reducible repeat (first|apply Kd.R_alloc|apply Kd.R_drewN|apply Kd.R_drew));exact HO148.out) (by decide)) hk (fun _ h => h.2)) (fun _ h => h.1));have n6_:=Am (hb);have n7_:=Am (hi);clear HO_5;clear HO_125001;clear BK122;clear BK124;clear HO145;clear HO148;clear HB;clear HI123;have HO_5:=n0_;have HO_125001:=n1_;have BK122:=n2_;have BK124:=n3_;have HO145:=n4_;have HO148:=n5_;have HB:=n6_;have HI123:=n7_;clear n0_ n1_ n2_ n3_ n4_ n5_ n6_ n7_;(try clear hb);(try clear hb2);(try clear hk);(try clear hi)))
         go_roundg kj9
         case measure => have:=HK1.out;have:=HJ9.out;omega
         case rel => exact ⟨(y146),(x6_1),(t149),(t150),(t151),(y143),(x125001_1),(x125002_1),(x125003_1),(x125004_1),(.slice Ao31 y143.length co31),(u125001),(by first|rfl|(simp;done)|(simp [*];done)),H',⟨by have:=HK1.out;have:=HJ9.out;omega⟩,⟨by (with_reducible repeat (first|apply Kd.R_alloc|apply Kd.R_drewN|apply Kd.R_drew));exact Kd.R_mono HO148.out (fun _ hk => trivial)⟩,⟨by (with_reducible repeat (first|apply Kd.R_alloc|apply Kd.R_drewN|apply Kd.R_drew));exact HO145.out⟩,⟨by (with_reducible repeat (first|apply Kd.R_alloc|apply Kd.R_drewN|apply Kd.R_drew));exact HO_125001.out⟩,⟨by (with_reducible repeat (first|refine kN ?_ _|refine kD ?_|refine kA ?_ _));exact BK122.out⟩,⟨by (with_reducible repeat (first|refine kN ?_ _|refine kD ?_|refine kA ?_ _));exact BK124.out⟩,⟨by repeat (first|(with_reducible first|exact HI123.out|apply IsS90.alloc|apply IsS90.drewN|apply IsS90.drew|apply IsS90.set_0|apply IsS90.set_1|apply IsS90.set_2|refine IsS90.far ?_ NB123_122.out _|refine IsS90.far ?_ NB123_124.out _)|exact HI123.out)⟩,⟨by repeat (first|(with_reducible first|exact HB.out|apply bA|apply bN|apply bD|refine bS ?_ (IsS90.ge HI123.out)|refine bS ?_ GE122.out|refine bS ?_ GE124.out)|exact HB.out)⟩⟩
        ·rw [if_neg c20] at H
         exact absurd H (by simp)
       ·rw [if_neg c16] at H
        have c16b0 : (t128.toList == ([116,114,97,99,107,32] : List UInt8)) = false:=beq_eq_false_iff_ne.mpr c16
        have c16b1 : (t128.toList != ([116,114,97,99,107,32] : List UInt8)) = true:=bne_iff_ne.mpr c16
        by_cases c36 : t128.toList = ([108,105,109,105,116,32] : List UInt8)
        ·rw [if_pos c36] at H
         have c36b0 : (t128.toList == ([108,105,109,105,116,32] : List UInt8)) = true:=beq_iff_eq.mpr c36
         have c36b1 : (t128.toList != ([108,105,109,105,116,32] : List UInt8)) = false:=bne_eq_false_iff_eq.mpr c36
         clear c36
         replace H:=Option.bind_eq_some_iff.mp H
         obtain ⟨⟨t152,t153,t154,t155⟩,A370,H⟩:=H
         replace H : ((spec_l5R_must.f kj9 t153 t154 t155 (⟨#[32]⟩ : ByteArray)).bind fun bt156 => ((spec_l5R_num.f kj9 bt156.1 bt156.2.1 bt156.2.2).bind fun bt159 => ((spec_l5R_must.f kj9 bt159.2.1 bt159.2.2.1 bt159.2.2.2 (⟨#[32]⟩ : ByteArray)).bind fun bt163 => ((spec_l5R_num.f kj9 bt163.1 bt163.2.1 bt163.2.2).bind fun bt166 => (if x125001_1.length < 5864062014805 then ((spec_l5R_must.f kj9 bt166.2.1 bt166.2.2.1 bt166.2.2.2 (⟨#[10]⟩ : ByteArray)).bind fun bt176 => (spec_ReadProfile.l0 kj9 a0 (([(⟨#[108,105,109,105,116,32]⟩ : ByteArray),(⟨#[116,114,97,105,110,32]⟩ : ByteArray)] : List ByteArray)) x6_1 bt176.1 bt176.2.1 bt176.2.2 x125000_1 (x125001_1 ++ [(⟨t152,bt159.1,bt166.1⟩ : S75)]) x125002_1 x125003_1 x125004_1)) else (none)))))) = some (r1,r2,r3,r4,r5,r6,r7):=H
         have A37:=Am A370
         clear A370
         replace H:=Option.bind_eq_some_iff.mp H
         obtain ⟨⟨t156,t157,t158⟩,A380,H⟩:=H
         replace H : ((spec_l5R_num.f kj9 t156 t157 t158).bind fun bt159 => ((spec_l5R_must.f kj9 bt159.2.1 bt159.2.2.1 bt159.2.2.2 (⟨#[32]⟩ : ByteArray)).bind fun bt163 => ((spec_l5R_num.f kj9 bt163.1 bt163.2.1 bt163.2.2).bind fun bt166 => (if x125001_1.length < 5864062014805 then ((spec_l5R_must.f kj9 bt166.2.1 bt166.2.2.1 bt166.2.2.2 (⟨#[10]⟩ : ByteArray)).bind fun bt176 => (spec_ReadProfile.l0 kj9 a0 (([(⟨#[108,105,109,105,116,32]⟩ : ByteArray),(⟨#[116,114,97,105,110,32]⟩ : ByteArray)] : List ByteArray)) x6_1 bt176.1 bt176.2.1 bt176.2.2 x125000_1 (x125001_1 ++ [(⟨t152,bt159.1,bt166.1⟩ : S75)]) x125002_1 x125003_1 x125004_1)) else (none))))) = some (r1,r2,r3,r4,r5,r6,r7):=H
         have A38:=Am A380
         clear A380
         replace H:=Option.bind_eq_some_iff.mp H
         obtain ⟨⟨t159,t160,t161,t162⟩,A390,H⟩:=H
         replace H : ((spec_l5R_must.f kj9 t160 t161 t162 (⟨#[32]⟩ : ByteArray)).bind fun bt163 => ((spec_l5R_num.f kj9 bt163.1 bt163.2.1 bt163.2.2).bind fun bt166 => (if x125001_1.length < 5864062014805 then ((spec_l5R_must.f kj9 bt166.2.1 bt166.2.2.1 bt166.2.2.2 (⟨#[10]⟩ : ByteArray)).bind fun bt176 => (spec_ReadProfile.l0 kj9 a0 (([(⟨#[108,105,109,105,116,32]⟩ : ByteArray),(⟨#[116,114,97,105,110,32]⟩ : ByteArray)] : List ByteArray)) x6_1 bt176.1 bt176.2.1 bt176.2.2 x125000_1 (x125001_1 ++ [(⟨t152,t159,bt166.1⟩ : S75)]) x125002_1 x125003_1 x125004_1)) else (none)))) = some (r1,r2,r3,r4,r5,r6,r7):=H
         have A39:=Am A390
         clear A390
         replace H:=Option.bind_eq_some_iff.mp H
         obtain ⟨⟨t163,t164,t165⟩,A400,H⟩:=H
         replace H : ((spec_l5R_num.f kj9 t163 t164 t165).bind fun bt166 => (if x125001_1.length < 5864062014805 then ((spec_l5R_must.f kj9 bt166.2.1 bt166.2.2.1 bt166.2.2.2 (⟨#[10]⟩ : ByteArray)).bind fun bt176 => (spec_ReadProfile.l0 kj9 a0 (([(⟨#[108,105,109,105,116,32]⟩ : ByteArray),(⟨#[116,114,97,105,110,32]⟩ : ByteArray)] : List ByteArray)) x6_1 bt176.1 bt176.2.1 bt176.2.2 x125000_1 (x125001_1 ++ [(⟨t152,t159,bt166.1⟩ : S75)]) x125002_1 x125003_1 x125004_1)) else (none))) = some (r1,r2,r3,r4,r5,r6,r7):=H
         have A40:=Am A400
         clear A400
         replace H:=Option.bind_eq_some_iff.mp H
         obtain ⟨⟨t166,t167,t168,t169⟩,A410,H⟩:=H
         replace H : (if x125001_1.length < 5864062014805 then ((spec_l5R_must.f kj9 t167 t168 t169 (⟨#[10]⟩ : ByteArray)).bind fun bt176 => (spec_ReadProfile.l0 kj9 a0 (([(⟨#[108,105,109,105,116,32]⟩ : ByteArray),(⟨#[116,114,97,105,110,32]⟩ : ByteArray)] : List ByteArray)) x6_1 bt176.1 bt176.2.1 bt176.2.2 x125000_1 (x125001_1 ++ [(⟨t152,t159,t166⟩ : S75)]) x125002_1 x125003_1 x125004_1)) else (none)) = some (r1,r2,r3,r4,r5,r6,r7):=H
         have A41:=Am A410
         clear A410
         by_cases c42 : x125001_1.length < 5864062014805
         ·rw [if_pos c42] at H
          have LMc42:=Am c42
          clear c42
          obtain ⟨y170,hy170⟩ : ∃ y_ : List (S75),y_ = (x125001_1 ++ [(⟨t152,t159,t166⟩ : S75)]):=⟨_,rfl⟩
          replace H : ((spec_l5R_must.f kj9 t167 t168 t169 (⟨#[10]⟩ : ByteArray)).bind fun bt176 => (spec_ReadProfile.l0 kj9 a0 (([(⟨#[108,105,109,105,116,32]⟩ : ByteArray),(⟨#[116,114,97,105,110,32]⟩ : ByteArray)] : List ByteArray)) x6_1 bt176.1 bt176.2.1 bt176.2.2 x125000_1 y170 x125002_1 x125003_1 x125004_1)) = some (r1,r2,r3,r4,r5,r6,r7):=by first|(rw [hy170];with_reducible exact H)|(have H2_:=(Option.bind_some _ _).symm.trans H;rw [hy170];with_reducible exact H2_)|(have H2_:=(Option.bind_some _ _).symm.trans H;with_reducible exact H2_)|with_reducible exact H|(rw [hy170];exact H)|exact H
          have Ny170:=Am hy170
          clear hy170
          obtain ⟨y173,hy173⟩ : ∃ y_ : List ByteArray,y_ = (([(⟨#[108,105,109,105,116,32]⟩ : ByteArray),(⟨#[116,114,97,105,110,32]⟩ : ByteArray)] : List ByteArray)):=⟨_,rfl⟩
          replace H : ((spec_l5R_must.f kj9 t167 t168 t169 (⟨#[10]⟩ : ByteArray)).bind fun bt176 => (spec_ReadProfile.l0 kj9 a0 y173 x6_1 bt176.1 bt176.2.1 bt176.2.2 x125000_1 y170 x125002_1 x125003_1 x125004_1)) = some (r1,r2,r3,r4,r5,r6,r7):=by first|(rw [hy173];with_reducible exact H)|(have H2_:=(Option.bind_some _ _).symm.trans H;rw [hy173];with_reducible exact H2_)|(have H2_:=(Option.bind_some _ _).symm.trans H;with_reducible exact H2_)|with_reducible exact H|(rw [hy173];exact H)|exact H
          have Ny173:=Am hy173
          clear hy173
          replace H:=Option.bind_eq_some_iff.mp H
          obtain ⟨⟨t176,t177,t178⟩,A430,H⟩:=H
          replace H : (spec_ReadProfile.l0 kj9 a0 y173 x6_1 t176 t177 t178 x125000_1 y170 x125002_1 x125003_1 x125004_1) = some (r1,r2,r3,r4,r5,r6,r7):=H
          have A43:=Am A430
          clear A430
          have H':=Am H
          clear H
          obtain ⟨Ao44,co44,eo44⟩:=Kd.R_slice HO_5.out
          subst eo44
          go_wp2_with (first|((with_reducible refine gate_callee (f:=87) rfl ?_);refine goesL_ (some 32) rfl rfl Try.func87 (by kernel_rfl) rfl #[.pointer (some ⟨gb123,0,none⟩),.slice Ao44 x5_1.length co44] rfl (by (try simp only [List.map_toArray,List.map_cons,List.map_nil]);first|done|rfl|(simp only [List.length_drop,List.length_take];rfl)) ?_;(with_reducible refine (spec_l5R_word.calls kj9 gb123 x124000_1 x124001_1 x124002_1 _ _ x5_1 t128 t129 t130 t131 w _ ?side1 ?side2 ?side3 ?side4 ?side5 A15.out).mono ?_);(case side1 => repeat (first|(with_reducible first|exact HI123.out|apply IsS90.alloc|apply IsS90.drewN|apply IsS90.drew|apply IsS90.set_0|apply IsS90.set_1|apply IsS90.set_2|refine IsS90.far ?_ NB123_122.out _|refine IsS90.far ?_ NB123_124.out _)|exact HI123.out));(case side2 => repeat (first|(with_reducible first|exact HB.out|apply bA|apply bN|apply bD|refine bS ?_ (IsS90.ge HI123.out)|refine bS ?_ GE122.out|refine bS ?_ GE124.out)|exact HB.out));(case side3 => repeat (first|exact (Kd.R_reads' HO_5.out).2.2|(with_reducible refine Kd.C_alloc ?_ _)|(with_reducible refine Kd.C_drewN ?_ _)|(with_reducible refine Kd.C_drew ?_)));(case side4 => exact (Kd.R_reads' HO_5.out).2.1);(case side5 => exact far_slice (IsS90.own_ne HI123.out HO_5.out (by decide)));rintro e w45 ⟨rfl,hi,hb,hk⟩;refine ⟨_,rfl,?_⟩;have n0_:=Am (Kd.R_mono (Kd.R_keep (IsS90.apart (show IsS90 w _ gb123 x124000_1 x124001_1 x124002_1 from by repeat (first|(with_reducible first|exact HI123.out|apply IsS90.alloc|apply IsS90.drewN|apply IsS90.drew|apply IsS90.set_0|apply IsS90.set_1|apply IsS90.set_2|refine IsS90.far ?_ NB123_122.out _|refine IsS90.far ?_ NB123_124.out _)|exact HI123.out)) (by (with_reducible repeat (first|apply Kd.R_alloc|apply Kd.R_drewN|apply Kd.R_drew));exact HO_5.out) (by decide)) hk (fun _ h => h.2)) (fun _ h => h.1));have n1_:=Am (Kd.R_mono (Kd.R_keep (IsS90.apart (show IsS90 w _ gb123 x124000_1 x124001_1 x124002_1 from by repeat (first|(with_reducible first|exact HI123.out|apply IsS90.alloc|apply IsS90.drewN|apply IsS90.drew|apply IsS90.set_0|apply IsS90.set_1|apply IsS90.set_2|refine IsS90.far ?_ NB123_122.out _|refine IsS90.far ?_ NB123_124.out _)|exact HI123.out)) (by (with_reducible repeat (first|apply Kd.R_alloc|apply Kd.R_drewN|apply Kd.R_drew));exact HO_125000.out) (by decide)) hk (fun _ h => h.2)) (fun _ h => h.1));have n2_:=Am (Kd.R_mono (Kd.R_keep (IsS90.apart (show IsS90 w _ gb123 x124000_1 x124001_1 x124002_1 from by repeat (first|(with_reducible first|exact HI123.out|apply IsS90.alloc|apply IsS90.drewN|apply IsS90.drew|apply IsS90.set_0|apply IsS90.set_1|apply IsS90.set_2|refine IsS90.far ?_ NB123_122.out _|refine IsS90.far ?_ NB123_124.out _)|exact HI123.out)) (by (with_reducible repeat (first|apply Kd.R_alloc|apply Kd.R_drewN|apply Kd.R_drew));exact HO_125001.out) (by decide)) hk (fun _ h => h.2)) (fun _ h => h.1));have n3_:=Am (KeepBut.blk hk (g':=gb122) (o:=.cells #[.int .i64 0,.int .i64 0,.slice none 0 0,.slice none 0 0,.int .i64 0,.int .i64 0,.int .i64 0] 46 (0,0)) (by (with_reducible repeat (first|refine kN ?_ _|refine kD ?_|refine kA ?_ _));exact BK122.out) NB122_123.out (by simp));have n4_:=Am (KeepBut.blk hk (g':=gb124) (o:=.cells #[u125000,u125001,.int .i64 x125002_1,.int .i64 x125003_1,.int .i64 x125004_1] 31 (0,0)) (by (with_reducible repeat (first|refine kN ?_ _|refine kD ?_|refine kA ?_ _));exact BK124.out) NB124_123.out (by simp));have n5_:=Am (hb);have n6_:=Am (hi);clear HO_5;clear HO_125000;clear HO_125001;clear BK122;clear BK124;clear HB;clear HI123;have HO_5:=n0_;have HO_125000:=n1_;have HO_125001:=n2_;have BK122:=n3_;have BK124:=n4_;have HB:=n5_;have HI123:=n6_;clear n0_ n1_ n2_ n3_ n4_ n5_ n6_;(try clear hb);(try clear hb2);(try clear hk);(try clear hi))|((with_reducible refine gate_callee (f:=88) rfl ?_);refine goesL_ (some 53) rfl rfl Try.func88 (by kernel_rfl) rfl #[.pointer (some ⟨gb123,0,none⟩)] rfl (by (try simp only [List.map_toArray,List.map_cons,List.map_nil]);first|done|rfl|(simp only [List.length_drop,List.length_take];rfl)) ?_;(with_reducible refine (spec_l5R_num.calls kj9 gb123 t129 t130 t131 t152 t153 t154 t155 w _ ?side1 ?side2 A37.out).mono ?_);(case side1 => repeat (first|(with_reducible first|exact HI123.out|apply IsS90.alloc|apply IsS90.drewN|apply IsS90.drew|apply IsS90.set_0|apply IsS90.set_1|apply IsS90.set_2|refine IsS90.far ?_ NB123_122.out _|refine IsS90.far ?_ NB123_124.out _)|exact HI123.out));(case side2 => repeat (first|(with_reducible first|exact HB.out|apply bA|apply bN|apply bD|refine bS ?_ (IsS90.ge HI123.out)|refine bS ?_ GE122.out|refine bS ?_ GE124.out)|exact HB.out));rintro e w46 ⟨rfl,hi,hb,hk⟩;refine ⟨_,rfl,?_⟩;have n0_:=Am (Kd.R_mono (Kd.R_keep (IsS90.apart (show IsS90 w _ gb123 t129 t130 t131 from by repeat (first|(with_reducible first|exact HI123.out|apply IsS90.alloc|apply IsS90.drewN|apply IsS90.drew|apply IsS90.set_0|apply IsS90.set_1|apply IsS90.set_2|refine IsS90.far ?_ NB123_122.out _|refine IsS90.far ?_ NB123_124.out _)|exact HI123.out)) (by (with_reducible repeat (first|apply Kd.R_alloc|apply Kd.R_drewN|apply Kd.R_drew));exact HO_5.out) (by decide)) hk (fun _ h => h.2)) (fun _ h => h.1));have n1_:=Am (Kd.R_mono (Kd.R_keep (IsS90.apart (show IsS90 w _ gb123 t129 t130 t131 from by repeat (first|(with_reducible first|exact HI123.out|apply IsS90.alloc|apply IsS90.drewN|apply IsS90.drew|apply IsS90.set_0|apply IsS90.set_1|apply IsS90.set_2|refine IsS90.far ?_ NB123_122.out _|refine IsS90.far ?_ NB123_124.out _)|exact HI123.out)) (by (with_reducible repeat (first|apply Kd.R_alloc|apply Kd.R_drewN|apply Kd.R_drew));exact HO_125000.out) (by decide)) hk (fun _ h => h.2)) (fun _ h => h.1));have n2_:=Am (Kd.R_mono (Kd.R_keep (IsS90.apart (show IsS90 w _ gb123 t129 t130 t131 from by repeat (first|(with_reducible first|exact HI123.out|apply IsS90.alloc|apply IsS90.drewN|apply IsS90.drew|apply IsS90.set_0|apply IsS90.set_1|apply IsS90.set_2|refine IsS90.far ?_ NB123_122.out _|refine IsS90.far ?_ NB123_124.out _)|exact HI123.out)) (by (with_reducible repeat (first|apply Kd.R_alloc|apply Kd.R_drewN|apply Kd.R_drew));exact HO_125001.out) (by decide)) hk (fun _ h => h.2)) (fun _ h => h.1));have n3_:=Am (KeepBut.blk hk (g':=gb122) (o:=.cells #[.int .i64 0,.int .i64 0,.slice none 0 0,.slice none 0 0,.int .i64 0,.int .i64 0,.int .i64 0] 46 (0,0)) (by (with_reducible repeat (first|refine kN ?_ _|refine kD ?_|refine kA ?_ _));exact BK122.out) NB122_123.out (by simp));have n4_:=Am (KeepBut.blk hk (g':=gb124) (o:=.cells #[u125000,u125001,.int .i64 x125002_1,.int .i64 x125003_1,.int .i64 x125004_1] 31 (0,0)) (by (with_reducible repeat (first|refine kN ?_ _|refine kD ?_|refine kA ?_ _));exact BK124.out) NB124_123.out (by simp));have n5_:=Am (hb);have n6_:=Am (hi);clear HO_5;clear HO_125000;clear HO_125001;clear BK122;clear BK124;clear HB;clear HI123;have HO_5:=n0_;have HO_125000:=n1_;have HO_125001:=n2_;have BK122:=n3_;have BK124:=n4_;have HB:=n5_;have HI123:=n6_;clear n0_ n1_ n2_ n3_ n4_ n5_ n6_;(try clear hb);(try clear hb2);(try clear hk);(try clear hi))|((with_reducible refine gate_callee (f:=89) rfl ?_);refine goesL_ (some 55) rfl rfl Try.func89 (by kernel_rfl) rfl #[.pointer (some ⟨gb123,0,none⟩),.string (⟨#[32]⟩ : ByteArray)] rfl (by (try simp only [List.map_toArray,List.map_cons,List.map_nil]);first|done|rfl|(simp only [List.length_drop,List.length_take];rfl)) ?_;(with_reducible refine (spec_l5R_must.calls kj9 gb123 t153 t154 t155 (⟨#[32]⟩ : ByteArray) t156 t157 t158 w _ ?side1 ?side2 A38.out).mono ?_);(case side1 => repeat (first|(with_reducible first|exact HI123.out|apply IsS90.alloc|apply IsS90.drewN|apply IsS90.drew|apply IsS90.set_0|apply IsS90.set_1|apply IsS90.set_2|refine IsS90.far ?_ NB123_122.out _|refine IsS90.far ?_ NB123_124.out _)|exact HI123.out));(case side2 => repeat (first|(with_reducible first|exact HB.out|apply bA|apply bN|apply bD|refine bS ?_ (IsS90.ge HI123.out)|refine bS ?_ GE122.out|refine bS ?_ GE124.out)|exact HB.out));rintro e w47 ⟨rfl,hi,hb,hk⟩;refine ⟨_,rfl,?_⟩;have n0_:=Am (Kd.R_mono (Kd.R_keep (IsS90.apart (show IsS90 w _ gb123 t153 t154 t155 from by repeat (first|(with_reducible first|exact HI123.out|apply IsS90.alloc|apply IsS90.drewN|apply IsS90.drew|apply IsS90.set_0|apply IsS90.set_1|apply IsS90.set_2|refine IsS90.far ?_ NB123_122.out _|refine IsS90.far ?_ NB123_124.out _)|exact HI123.out)) (by (with_reducible repeat (first|apply Kd.R_alloc|apply Kd.R_drewN|apply Kd.R_drew));exact HO_5.out) (by decide)) hk (fun _ h => h.2)) (fun _ h => h.1));have n1_:=Am (Kd.R_mono (Kd.R_keep (IsS90.apart (show IsS90 w _ gb123 t153 t154 t155 from by repeat (first|(with_reducible first|exact HI123.out|apply IsS90.alloc|apply IsS90.drewN|apply IsS90.drew|apply IsS90.set_0|apply IsS90.set_1|apply IsS90.set_2|refine IsS90.far ?_ NB123_122.out _|refine IsS90.far ?_ NB123_124.out _)|exact HI123.out)) (by (with_reducible repeat (first|apply Kd.R_alloc|apply Kd.R_drewN|apply Kd.R_drew));exact HO_125000.out) (by decide)) hk (fun _ h => h.2)) (fun _ h => h.1));have n2_:=Am (Kd.R_mono (Kd.R_keep (IsS90.apart (show IsS90 w _ gb123 t153 t154 t155 from by repeat (first|(with_reducible first|exact HI123.out|apply IsS90.alloc|apply IsS90.drewN|apply IsS90.drew|apply IsS90.set_0|apply IsS90.set_1|apply IsS90.set_2|refine IsS90.far ?_ NB123_122.out _|refine IsS90.far ?_ NB123_124.out _)|exact HI123.out)) (by (with_reducible repeat (first|apply Kd.R_alloc|apply Kd.R_drewN|apply Kd.R_drew));exact HO_125001.out) (by decide)) hk (fun _ h => h.2)) (fun _ h => h.1));have n3_:=Am (KeepBut.blk hk (g':=gb122) (o:=.cells #[.int .i64 0,.int .i64 0,.slice none 0 0,.slice none 0 0,.int .i64 0,.int .i64 0,.int .i64 0] 46 (0,0)) (by (with_reducible repeat (first|refine kN ?_ _|refine kD ?_|refine kA ?_ _));exact BK122.out) NB122_123.out (by simp));have n4_:=Am (KeepBut.blk hk (g':=gb124) (o:=.cells #[u125000,u125001,.int .i64 x125002_1,.int .i64 x125003_1,.int .i64 x125004_1] 31 (0,0)) (by (with_reducible repeat (first|refine kN ?_ _|refine kD ?_|refine kA ?_ _));exact BK124.out) NB124_123.out (by simp));have n5_:=Am (hb);have n6_:=Am (hi);clear HO_5;clear HO_125000;clear HO_125001;clear BK122;clear BK124;clear HB;clear HI123;have HO_5:=n0_;have HO_125000:=n1_;have HO_125001:=n2_;have BK122:=n3_;have BK124:=n4_;have HB:=n5_;have HI123:=n6_;clear n0_ n1_ n2_ n3_ n4_ n5_ n6_;(try clear hb);(try clear hb2);(try clear hk);(try clear hi))|((with_reducible refine gate_callee (f:=88) rfl ?_);refine goesL_ (some 57) rfl rfl Try.func88 (by kernel_rfl) rfl #[.pointer (some ⟨gb123,0,none⟩)] rfl (by (try simp only [List.map_toArray,List.map_cons,List.map_nil]);first|done|rfl|(simp only [List.length_drop,List.length_take];rfl)) ?_;(with_reducible refine (spec_l5R_num.calls kj9 gb123 t156 t157 t158 t159 t160 t161 t162 w _ ?side1 ?side2 A39.out).mono ?_);(case side1 => repeat (first|(with_reducible first|exact HI123.out|apply IsS90.alloc|apply IsS90.drewN|apply IsS90.drew|apply IsS90.set_0|apply IsS90.set_1|apply IsS90.set_2|refine IsS90.far ?_ NB123_122.out _|refine IsS90.far ?_ NB123_124.out _)|exact HI123.out));(case side2 => repeat (first|(with_reducible first|exact HB.out|apply bA|apply bN|apply bD|refine bS ?_ (IsS90.ge HI123.out)|refine bS ?_ GE122.out|refine bS ?_ GE124.out)|exact HB.out));rintro e w48 ⟨rfl,hi,hb,hk⟩;refine ⟨_,rfl,?_⟩;have n0_:=Am (Kd.R_mono (Kd.R_keep (IsS90.apart (show IsS90 w _ gb123 t156 t157 t158 from by repeat (first|(with_reducible first|exact HI123.out|apply IsS90.alloc|apply IsS90.drewN|apply IsS90.drew|apply IsS90.set_0|apply IsS90.set_1|apply IsS90.set_2|refine IsS90.far ?_ NB123_122.out _|refine IsS90.far ?_ NB123_124.out _)|exact HI123.out)) (by (with_reducible repeat (first|apply Kd.R_alloc|apply Kd.R_drewN|apply Kd.R_drew));exact HO_5.out) (by decide)) hk (fun _ h => h.2)) (fun _ h => h.1));have n1_:=Am (Kd.R_mono (Kd.R_keep (IsS90.apart (show IsS90 w _ gb123 t156 t157 t158 from by repeat (first|(with_reducible first|exact HI123.out|apply IsS90.alloc|apply IsS90.drewN|apply IsS90.drew|apply IsS90.set_0|apply IsS90.set_1|apply IsS90.set_2|refine IsS90.far ?_ NB123_122.out _|refine IsS90.far ?_ NB123_124.out _)|exact HI123.out)) (by (with_reducible repeat (first|apply Kd.R_alloc|apply Kd.R_drewN|apply Kd.R_drew));exact HO_125000.out) (by decide)) hk (fun _ h => h.2)) (fun _ h => h.1));have n2_:=Am (Kd.R_mono (Kd.R_keep (IsS90.apart (show IsS90 w _ gb123 t156 t157 t158 from by repeat (first|(with_reducible first|exact HI123.out|apply IsS90.alloc|apply IsS90.drewN|apply IsS90.drew|apply IsS90.set_0|apply IsS90.set_1|apply IsS90.set_2|refine IsS90.far ?_ NB123_122.out _|refine IsS90.far ?_ NB123_124.out _)|exact HI123.out)) (by (with_reducible repeat (first|apply Kd.R_alloc|apply Kd.R_drewN|apply Kd.R_drew));exact HO_125001.out) (by decide)) hk (fun _ h => h.2)) (fun _ h => h.1));have n3_:=Am (KeepBut.blk hk (g':=gb122) (o:=.cells #[.int .i64 0,.int .i64 0,.slice none 0 0,.slice none 0 0,.int .i64 0,.int .i64 0,.int .i64 0] 46 (0,0)) (by (with_reducible repeat (first|refine kN ?_ _|refine kD ?_|refine kA ?_ _));exact BK122.out) NB122_123.out (by simp));have n4_:=Am (KeepBut.blk hk (g':=gb124) (o:=.cells #[u125000,u125001,.int .i64 x125002_1,.int .i64 x125003_1,.int .i64 x125004_1] 31 (0,0)) (by (with_reducible repeat (first|refine kN ?_ _|refine kD ?_|refine kA ?_ _));exact BK124.out) NB124_123.out (by simp));have n5_:=Am (hb);have n6_:=Am (hi);clear HO_5;clear HO_125000;clear HO_125001;clear BK122;clear BK124;clear HB;clear HI123;have HO_5:=n0_;have HO_125000:=n1_;have HO_125001:=n2_;have BK122:=n3_;have BK124:=n4_;have HB:=n5_;have HI123:=n6_;clear n0_ n1_ n2_ n3_ n4_ n5_ n6_;(try clear hb);(try clear hb2);(try clear hk);(try clear hi))|((with_reducible refine gate_callee (f:=89) rfl ?_);refine goesL_ (some 59) rfl rfl Try.func89 (by kernel_rfl) rfl #[.pointer (some ⟨gb123,0,none⟩),.string (⟨#[32]⟩ : ByteArray)] rfl (by (try simp only [List.map_toArray,List.map_cons,List.map_nil]);first|done|rfl|(simp only [List.length_drop,List.length_take];rfl)) ?_;(with_reducible refine (spec_l5R_must.calls kj9 gb123 t160 t161 t162 (⟨#[32]⟩ : ByteArray) t163 t164 t165 w _ ?side1 ?side2 A40.out).mono ?_);(case side1 => repeat (first|(with_reducible first|exact HI123.out|apply IsS90.alloc|apply IsS90.drewN|apply IsS90.drew|apply IsS90.set_0|apply IsS90.set_1|apply IsS90.set_2|refine IsS90.far ?_ NB123_122.out _|refine IsS90.far ?_ NB123_124.out _)|exact HI123.out));(case side2 => repeat (first|(with_reducible first|exact HB.out|apply bA|apply bN|apply bD|refine bS ?_ (IsS90.ge HI123.out)|refine bS ?_ GE122.out|refine bS ?_ GE124.out)|exact HB.out));rintro e w49 ⟨rfl,hi,hb,hk⟩;refine ⟨_,rfl,?_⟩;have n0_:=Am (Kd.R_mono (Kd.R_keep (IsS90.apart (show IsS90 w _ gb123 t160 t161 t162 from by repeat (first|(with_reducible first|exact HI123.out|apply IsS90.alloc|apply IsS90.drewN|apply IsS90.drew|apply IsS90.set_0|apply IsS90.set_1|apply IsS90.set_2|refine IsS90.far ?_ NB123_122.out _|refine IsS90.far ?_ NB123_124.out _)|exact HI123.out)) (by (with_reducible repeat (first|apply Kd.R_alloc|apply Kd.R_drewN|apply Kd.R_drew));exact HO_5.out) (by decide)) hk (fun _ h => h.2)) (fun _ h => h.1));have n1_:=Am (Kd.R_mono (Kd.R_keep (IsS90.apart (show IsS90 w _ gb123 t160 t161 t162 from by repeat (first|(with_reducible first|exact HI123.out|apply IsS90.alloc|apply IsS90.drewN|apply IsS90.drew|apply IsS90.set_0|apply IsS90.set_1|apply IsS90.set_2|refine IsS90.far ?_ NB123_122.out _|refine IsS90.far ?_ NB123_124.out _)|exact HI123.out)) (by (with_reducible repeat (first|apply Kd.R_alloc|apply Kd.R_drewN|apply Kd.R_drew));exact HO_125000.out) (by decide)) hk (fun _ h => h.2)) (fun _ h => h.1));have n2_:=Am (Kd.R_mono (Kd.R_keep (IsS90.apart (show IsS90 w _ gb123 t160 t161 t162 from by repeat (first|(with_reducible first|exact HI123.out|apply IsS90.alloc|apply IsS90.drewN|apply IsS90.drew|apply IsS90.set_0|apply IsS90.set_1|apply IsS90.set_2|refine IsS90.far ?_ NB123_122.out _|refine IsS90.far ?_ NB123_124.out _)|exact HI123.out)) (by (with_reducible repeat (first|apply Kd.R_alloc|apply Kd.R_drewN|apply Kd.R_drew));exact HO_125001.out) (by decide)) hk (fun _ h => h.2)) (fun _ h => h.1));have n3_:=Am (KeepBut.blk hk (g':=gb122) (o:=.cells #[.int .i64 0,.int .i64 0,.slice none 0 0,.slice none 0 0,.int .i64 0,.int .i64 0,.int .i64 0] 46 (0,0)) (by (with_reducible repeat (first|refine kN ?_ _|refine kD ?_|refine kA ?_ _));exact BK122.out) NB122_123.out (by simp));have n4_:=Am (KeepBut.blk hk (g':=gb124) (o:=.cells #[u125000,u125001,.int .i64 x125002_1,.int .i64 x125003_1,.int .i64 x125004_1] 31 (0,0)) (by (with_reducible repeat (first|refine kN ?_ _|refine kD ?_|refine kA ?_ _));exact BK124.out) NB124_123.out (by simp));have n5_:=Am (hb);have n6_:=Am (hi);clear HO_5;clear HO_125000;clear HO_125001;clear BK122;clear BK124;clear HB;clear HI123;have HO_5:=n0_;have HO_125000:=n1_;have HO_125001:=n2_;have BK122:=n3_;have BK124:=n4_;have HB:=n5_;have HI123:=n6_;clear n0_ n1_ n2_ n3_ n4_ n5_ n6_;(try clear hb);(try clear hb2);(try clear hk);(try clear hi))|((with_reducible refine gate_callee (f:=88) rfl ?_);refine goesL_ (some 61) rfl rfl Try.func88 (by kernel_rfl) rfl #[.pointer (some ⟨gb123,0,none⟩)] rfl (by (try simp only [List.map_toArray,List.map_cons,List.map_nil]);first|done|rfl|(simp only [List.length_drop,List.length_take];rfl)) ?_;(with_reducible refine (spec_l5R_num.calls kj9 gb123 t163 t164 t165 t166 t167 t168 t169 w _ ?side1 ?side2 A41.out).mono ?_);(case side1 => repeat (first|(with_reducible first|exact HI123.out|apply IsS90.alloc|apply IsS90.drewN|apply IsS90.drew|apply IsS90.set_0|apply IsS90.set_1|apply IsS90.set_2|refine IsS90.far ?_ NB123_122.out _|refine IsS90.far ?_ NB123_124.out _)|exact HI123.out));(case side2 => repeat (first|(with_reducible first|exact HB.out|apply bA|apply bN|apply bD|refine bS ?_ (IsS90.ge HI123.out)|refine bS ?_ GE122.out|refine bS ?_ GE124.out)|exact HB.out));rintro e w50 ⟨rfl,hi,hb,hk⟩;refine ⟨_,rfl,?_⟩;have n0_:=Am (Kd.R_mono (Kd.R_keep (IsS90.apart (show IsS90 w _ gb123 t163 t164 t165 from by repeat (first|(with_reducible first|exact HI123.out|apply IsS90.alloc|apply IsS90.drewN|apply IsS90.drew|apply IsS90.set_0|apply IsS90.set_1|apply IsS90.set_2|refine IsS90.far ?_ NB123_122.out _|refine IsS90.far ?_ NB123_124.out _)|exact HI123.out)) (by (with_reducible repeat (first|apply Kd.R_alloc|apply Kd.R_drewN|apply Kd.R_drew));exact HO_5.out) (by decide)) hk (fun _ h => h.2)) (fun _ h => h.1));have n1_:=Am (Kd.R_mono (Kd.R_keep (IsS90.apart (show IsS90 w _ gb123 t163 t164 t165 from by repeat (first|(with_reducible first|exact HI123.out|apply IsS90.alloc|apply IsS90.drewN|apply IsS90.drew|apply IsS90.set_0|apply IsS90.set_1|apply IsS90.set_2|refine IsS90.far ?_ NB123_122.out _|refine IsS90.far ?_ NB123_124.out _)|exact HI123.out)) (by (with_reducible repeat (first|apply Kd.R_alloc|apply Kd.R_drewN|apply Kd.R_drew));exact HO_125000.out) (by decide)) hk (fun _ h => h.2)) (fun _ h => h.1));have n2_:=Am (Kd.R_mono (Kd.R_keep (IsS90.apart (show IsS90 w _ gb123 t163 t164 t165 from by repeat (first|(with_reducible first|exact HI123.out|apply IsS90.alloc|apply IsS90.drewN|apply IsS90.drew|apply IsS90.set_0|apply IsS90.set_1|apply IsS90.set_2|refine IsS90.far ?_ NB123_122.out _|refine IsS90.far ?_ NB123_124.out _)|exact HI123.out)) (by (with_reducible repeat (first|apply Kd.R_alloc|apply Kd.R_drewN|apply Kd.R_drew));exact HO_125001.out) (by decide)) hk (fun _ h => h.2)) (fun _ h => h.1));have n3_:=Am (KeepBut.blk hk (g':=gb122) (o:=.cells #[.int .i64 0,.int .i64 0,.slice none 0 0,.slice none 0 0,.int .i64 0,.int .i64 0,.int .i64 0] 46 (0,0)) (by (with_reducible repeat (first|refine kN ?_ _|refine kD ?_|refine kA ?_ _));exact BK122.out) NB122_123.out (by simp));have n4_:=Am (KeepBut.blk hk (g':=gb124) (o:=.cells #[u125000,u125001,.int .i64 x125002_1,.int .i64 x125003_1,.int .i64 x125004_1] 31 (0,0)) (by (with_reducible repeat (first|refine kN ?_ _|refine kD ?_|refine kA ?_ _));exact BK124.out) NB124_123.out (by simp));have n5_:=Am (hb);have n6_:=Am (hi);clear HO_5;clear HO_125000;clear HO_125001;clear BK122;clear BK124;clear HB;clear HI123;have HO_5:=n0_;have HO_125000:=n1_;have HO_125001:=n2_;have BK122:=n3_;have BK124:=n4_;have HB:=n5_;have HI123:=n6_;clear n0_ n1_ n2_ n3_ n4_ n5_ n6_;(try clear hb);(try clear hb2);(try clear hk);(try clear hi);have hnb51:=NB124_122.out;have hnc51:=NB122_124.out;have hnb52:=NB124_123.out;have hnc52:=NB123_124.out;have hcz53_0 : w50.cell? ⟨gb124,0,none⟩ = some (u125000):=(kC BK124.out 0).trans rfl;have hcz53_1 : w50.cell? ⟨gb124,1,none⟩ = some (u125001):=(kC BK124.out 1).trans rfl;have hcz53_2 : w50.cell? ⟨gb124,2,none⟩ = some (.int .i64 x125002_1):=(kC BK124.out 2).trans rfl;have hcz53_3 : w50.cell? ⟨gb124,3,none⟩ = some (.int .i64 x125003_1):=(kC BK124.out 3).trans rfl;have hcz53_4 : w50.cell? ⟨gb124,4,none⟩ = some (.int .i64 x125004_1):=(kC BK124.out 4).trans rfl;have hfz53_0:=kF BK124.out 0;have hfz53_1:=kF BK124.out 1;have hfz53_2:=kF BK124.out 2;have hfz53_3:=kF BK124.out 3;have hfz53_4:=kF BK124.out 4)|((with_reducible refine gate_builtin (b:=.append) (xs:=#[.tmp 63,.tmp 68]) rfl ?_);(try (refine gate_guard (by rfl) ?_;dsimp only));at_builtin;refine Kd.R_append k75 (w0:=w) w.heap.size rfl (.tmp 63) (.tmp 68) 29 75 (.agg #[(.int .i64 0),(.int .i64 0),(.int .i64 0)]) 24 rfl Try.underlying29 info75 rfl (by decide) (by omega) u125001 x125001_1 (⟨t152,t159,t166⟩ : S75) [.int .i64 t152,.int .i64 t159,.int .i64 t166] (fun _ => True) (fun _ => False) rfl rfl ?aP (fun _ hk => hk.elim) ?aF ?aO ?aB ?aS ?aL ?_;(case aP => exact k75_mkM _ _ _ (⟨t152,t159,t166⟩ : S75));(case aB => exact (by repeat (first|(with_reducible first|exact HB.out|apply bA|apply bN|apply bD|refine bS ?_ (IsS90.ge HI123.out)|refine bS ?_ GE122.out|refine bS ?_ GE124.out)|exact HB.out)));(case aF => exact (fun _ _ => trivial));(case aO => exact (by (with_reducible repeat (first|apply Kd.R_alloc|apply Kd.R_drewN|apply Kd.R_drew));exact HO_125001.out));(case aS => exact (below_size (by repeat (first|(with_reducible first|exact HB.out|apply bA|apply bN|apply bD|refine bS ?_ (IsS90.ge HI123.out)|refine bS ?_ GE122.out|refine bS ?_ GE124.out)|exact HB.out))));(case aL => have:=LMc42.out;omega);intro v171 w54 ho hb hg hat;rw [← Ny170.out] at ho;have n0_:=Am (Kd.R_over' (by (with_reducible repeat (first|apply Kd.R_alloc|apply Kd.R_drewN|apply Kd.R_drew));exact HO_5.out) (Kd.R_typed (by (with_reducible repeat (first|apply Kd.R_alloc|apply Kd.R_drewN|apply Kd.R_drew));exact HO_125001.out)) (by decide) hg);have n1_:=Am (Kd.R_over' (by (with_reducible repeat (first|apply Kd.R_alloc|apply Kd.R_drewN|apply Kd.R_drew));exact HO_125000.out) (Kd.R_typed (by (with_reducible repeat (first|apply Kd.R_alloc|apply Kd.R_drewN|apply Kd.R_drew));exact HO_125001.out)) (by decide) hg);have n2_:=Am (blk_grown (g:=gb122) (o:=.cells #[.int .i64 0,.int .i64 0,.slice none 0 0,.slice none 0 0,.int .i64 0,.int .i64 0,.int .i64 0] 46 (0,0)) (by (with_reducible repeat (first|refine kN ?_ _|refine kD ?_|refine kA ?_ _));exact BK122.out) hg (Kd.R_ne HO_125001.out BK122.out (by decide)));have n3_:=Am (blk_grown (g:=gb124) (o:=.cells #[u125000,u125001,.int .i64 x125002_1,.int .i64 x125003_1,.int .i64 x125004_1] 31 (0,0)) (by (with_reducible repeat (first|refine kN ?_ _|refine kD ?_|refine kA ?_ _));exact BK124.out) hg (Kd.R_ne HO_125001.out BK124.out (by decide)));have n4_:=Am (IsS90.grown (show IsS90 w _ gb123 t167 t168 t169 from by repeat (first|(with_reducible first|exact HI123.out|apply IsS90.alloc|apply IsS90.drewN|apply IsS90.drew|apply IsS90.set_0|apply IsS90.set_1|apply IsS90.set_2|refine IsS90.far ?_ NB123_122.out _|refine IsS90.far ?_ NB123_124.out _)|exact HI123.out)) hg (IsS90.own_ne HI123.out HO_125001.out (by decide)));have n5_:=Am (hb);have n6_:=Am (ho);clear HO_5;clear HO_125000;clear BK122;clear BK124;clear HI123;clear HB;clear HO_125001;have HO_5:=n0_;have HO_125000:=n1_;have BK122:=n2_;have BK124:=n3_;have HI123:=n4_;have HB:=n5_;have HO172:=n6_;clear n0_ n1_ n2_ n3_ n4_ n5_ n6_;clear ho hb hg hat;obtain ⟨Ao55,co55,eo55⟩:=Kd.R_slice HO172.out;subst eo55;have hcz56_0 : w54.cell? ⟨gb124,0,none⟩ = some (u125000):=(kC BK124.out 0).trans rfl;have hcz56_1 : w54.cell? ⟨gb124,1,none⟩ = some (u125001):=(kC BK124.out 1).trans rfl;have hcz56_2 : w54.cell? ⟨gb124,2,none⟩ = some (.int .i64 x125002_1):=(kC BK124.out 2).trans rfl;have hcz56_3 : w54.cell? ⟨gb124,3,none⟩ = some (.int .i64 x125003_1):=(kC BK124.out 3).trans rfl;have hcz56_4 : w54.cell? ⟨gb124,4,none⟩ = some (.int .i64 x125004_1):=(kC BK124.out 4).trans rfl;have hfz56_0:=kF BK124.out 0;have hfz56_1:=kF BK124.out 1;have hfz56_2:=kF BK124.out 2;have hfz56_3:=kF BK124.out 3;have hfz56_4:=kF BK124.out 4)|((with_reducible refine gate_dst (N:=71) rfl ?_);(try (refine gate_guard (by rfl) ?_;dsimp only));refine Kd.R_lit Kd.string _ 9 ?hg (N:=71) ?hd (xs:=([(⟨#[108,105,109,105,116,32]⟩ : ByteArray),(⟨#[116,114,97,105,110,32]⟩ : ByteArray)] : List ByteArray)) (inner:=[.string (⟨#[108,105,109,105,116,32]⟩ : ByteArray),.string (⟨#[116,114,97,105,110,32]⟩ : ByteArray)]) (ok:=fun _ => True) (okp:=fun _ => True) ?hr ?hp (fun _ hk => hk) trivial (Below.refl _ _) (Nat.le_refl _) (by simp) ?_;(case hd => rfl);(case hg => rfl);(case hr => first|(go_simp;done)|(go_simp;rfl));(case hp => exact (Reps.one (show Kd.M Kd.string _ _ _ (⟨#[108,105,109,105,116,32]⟩ : ByteArray) [.string (⟨#[108,105,109,105,116,32]⟩ : ByteArray)] from rfl) (Reps.one (show Kd.M Kd.string _ _ _ (⟨#[116,114,97,105,110,32]⟩ : ByteArray) [.string (⟨#[116,114,97,105,110,32]⟩ : ByteArray)] from rfl) (Reps.none _ _))));intro v174 w57 ho58 hb hg_ hnew_;clear hg_ hnew_;(first|rw [← Ny173.out] at ho58|(simp only [Int.reduceToNat] at ho58;rw [← Ny173.out] at ho58));have n0_:=Am (Kd.R_elder' (by (with_reducible repeat (first|apply Kd.R_alloc|apply Kd.R_drewN|apply Kd.R_drew));exact (Kd.R_mono (Kd.R_far (p:=⟨gb124,1,none⟩) (Kd.R_types HO_5.out BK124.out (by decide)) (fun _ hk => hk.2) (.slice Ao55 y170.length co55)) (fun _ h_ => h_.1))) (Kd.R_base ho58) hb);have n1_:=Am (Kd.R_below (by (with_reducible repeat (first|apply Kd.R_alloc|apply Kd.R_drewN|apply Kd.R_drew));exact (Kd.R_mono (Kd.R_far (p:=⟨gb124,1,none⟩) (Kd.R_types HO_125000.out BK124.out (by decide)) (fun _ hk => hk.2) (.slice Ao55 y170.length co55)) (fun _ h_ => h_.1))) hb);have n2_:=Am (Kd.R_below (by (with_reducible repeat (first|apply Kd.R_alloc|apply Kd.R_drewN|apply Kd.R_drew));exact (Kd.R_mono (Kd.R_far (p:=⟨gb124,1,none⟩) (Kd.R_types HO172.out BK124.out (by decide)) (fun _ hk => hk.2) (.slice Ao55 y170.length co55)) (fun _ h_ => h_.1))) hb);have n3_:=Am (Kd.R_lower (Kd.R_new' ho58 (Kd.R_lt (by (with_reducible repeat (first|apply Kd.R_alloc|apply Kd.R_drewN|apply Kd.R_drew));exact (Kd.R_mono (Kd.R_far (p:=⟨gb124,1,none⟩) (Kd.R_types HO_5.out BK124.out (by decide)) (fun _ hk => hk.2) (.slice Ao55 y170.length co55)) (fun _ h_ => h_.1))))) (below_size (by repeat (first|(with_reducible first|exact HB.out|apply bA|apply bN|apply bD|refine bS ?_ (IsS90.ge HI123.out)|refine bS ?_ GE122.out|refine bS ?_ GE124.out)|exact HB.out))));have n4_:=Am (blk_below (g:=gb122) (o:=.cells #[.int .i64 0,.int .i64 0,.slice none 0 0,.slice none 0 0,.int .i64 0,.int .i64 0,.int .i64 0] 46 (0,0)) (by (with_reducible repeat (first|refine kN ?_ _|refine kD ?_|refine kA ?_ _));refine blk_far ?_ NB122_124.out _;(with_reducible repeat (first|refine kN ?_ _|refine kD ?_|refine kA ?_ _));exact BK122.out) hb);have n5_:=Am (blk_below (g:=gb124) (o:=.cells #[u125000,.slice Ao55 y170.length co55,.int .i64 x125002_1,.int .i64 x125003_1,.int .i64 x125004_1] 31 (0,0)) (by (with_reducible repeat (first|refine kN ?_ _|refine kD ?_|refine kA ?_ _));refine blk_put (cs:=#[u125000,u125001,.int .i64 x125002_1,.int .i64 x125003_1,.int .i64 x125004_1]) ?_ 1 _ rfl;(with_reducible repeat (first|refine kN ?_ _|refine kD ?_|refine kA ?_ _));exact BK124.out) hb);have n6_:=Am (IsS90.below (show IsS90 w (w54.setCell ⟨gb124,1,none⟩ (.slice Ao55 y170.length co55)) gb123 t167 t168 t169 from by repeat (first|(with_reducible first|exact HI123.out|apply IsS90.alloc|apply IsS90.drewN|apply IsS90.drew|apply IsS90.set_0|apply IsS90.set_1|apply IsS90.set_2|refine IsS90.far ?_ NB123_122.out _|refine IsS90.far ?_ NB123_124.out _)|exact HI123.out)) hb);have n7_:=Am (below_step (by repeat (first|(with_reducible first|exact HB.out|apply bA|apply bN|apply bD|refine bS ?_ (IsS90.ge HI123.out)|refine bS ?_ GE122.out|refine bS ?_ GE124.out)|exact HB.out)) hb);clear HO_5;clear HO_125000;clear HO172;clear BK122;clear BK124;clear HI123;clear HB;have HO_5:=n0_;have HO_125000:=n1_;have HO172:=n2_;have HO175:=n3_;have BK122:=n4_;have BK124:=n5_;have HI123:=n6_;have HB:=n7_;clear n0_ n1_ n2_ n3_ n4_ n5_ n6_ n7_;clear hb ho58)|((with_reducible refine gate_callee (f:=89) rfl ?_);refine goesL_ (some 88) rfl rfl Try.func89 (by kernel_rfl) rfl #[.pointer (some ⟨gb123,0,none⟩),.string (⟨#[10]⟩ : ByteArray)] rfl (by (try simp only [List.map_toArray,List.map_cons,List.map_nil]);first|done|rfl|(simp only [List.length_drop,List.length_take];rfl)) ?_;(with_reducible refine (spec_l5R_must.calls kj9 gb123 t167 t168 t169 (⟨#[10]⟩ : ByteArray) t176 t177 t178 w _ ?side1 ?side2 A43.out).mono ?_);(case side1 => repeat (first|(with_reducible first|exact HI123.out|apply IsS90.alloc|apply IsS90.drewN|apply IsS90.drew|apply IsS90.set_0|apply IsS90.set_1|apply IsS90.set_2|refine IsS90.far ?_ NB123_122.out _|refine IsS90.far ?_ NB123_124.out _)|exact HI123.out));(case side2 => repeat (first|(with_reducible first|exact HB.out|apply bA|apply bN|apply bD|refine bS ?_ (IsS90.ge HI123.out)|refine bS ?_ GE122.out|refine bS ?_ GE124.out)|exact HB.out));rintro e w59 ⟨rfl,hi,hb,hk⟩;refine ⟨_,rfl,?_⟩;have n0_:=Am (Kd.R_mono (Kd.R_keep (IsS90.apart (show IsS90 w _ gb123 t167 t168 t169 from by repeat (first|(with_reducible first|exact HI123.out|apply IsS90.alloc|apply IsS90.drewN|apply IsS90.drew|apply IsS90.set_0|apply IsS90.set_1|apply IsS90.set_2|refine IsS90.far ?_ NB123_122.out _|refine IsS90.far ?_ NB123_124.out _)|exact HI123.out)) (by (with_reducible repeat (first|apply Kd.R_alloc|apply Kd.R_drewN|apply Kd.R_drew));exact HO_5.out) (by decide)) hk (fun _ h => h.2)) (fun _ h => h.1));have n1_:=Am (Kd.R_mono (Kd.R_keep (IsS90.apart (show IsS90 w _ gb123 t167 t168 t169 from by repeat (first|(with_reducible first|exact HI123.out|apply IsS90.alloc|apply IsS90.drewN|apply IsS90.drew|apply IsS90.set_0|apply IsS90.set_1|apply IsS90.set_2|refine IsS90.far ?_ NB123_122.out _|refine IsS90.far ?_ NB123_124.out _)|exact HI123.out)) (by (with_reducible repeat (first|apply Kd.R_alloc|apply Kd.R_drewN|apply Kd.R_drew));exact HO_125000.out) (by decide)) hk (fun _ h => h.2)) (fun _ h => h.1));have n2_:=Am (KeepBut.blk hk (g':=gb122) (o:=.cells #[.int .i64 0,.int .i64 0,.slice none 0 0,.slice none 0 0,.int .i64 0,.int .i64 0,.int .i64 0] 46 (0,0)) (by (with_reducible repeat (first|refine kN ?_ _|refine kD ?_|refine kA ?_ _));exact BK122.out) NB122_123.out (by simp));have n3_:=Am (KeepBut.blk hk (g':=gb124) (o:=.cells #[u125000,.slice Ao55 y170.length co55,.int .i64 x125002_1,.int .i64 x125003_1,.int .i64 x125004_1] 31 (0,0)) (by (with_reducible repeat (first|refine kN ?_ _|refine kD ?_|refine kA ?_ _));exact BK124.out) NB124_123.out (by simp));have n4_:=Am (Kd.R_mono (Kd.R_keep (IsS90.apart (show IsS90 w _ gb123 t167 t168 t169 from by repeat (first|(with_reducible first|exact HI123.out|apply IsS90.alloc|apply IsS90.drewN|apply IsS90.drew|apply IsS90.set_0|apply IsS90.set_1|apply IsS90.set_2|refine IsS90.far ?_ NB123_122.out _|refine IsS90.far ?_ NB123_124.out _)|exact HI123.out)) (by (with_reducible repeat (first|apply Kd.R_alloc|apply Kd.R_drewN|apply Kd.R_drew));exact HO172.out) (by decide)) hk (fun _ h => h.2)) (fun _ h => h.1));have n5_:=Am (Kd.R_mono (Kd.R_keep (IsS90.apart (show IsS90 w _ gb123 t167 t168 t169 from by repeat (first|(with_reducible first|exact HI123.out|apply IsS90.alloc|apply IsS90.drewN|apply IsS90.drew|apply IsS90.set_0|apply IsS90.set_1|apply IsS90.set_2|refine IsS90.far ?_ NB123_122.out _|refine IsS90.far ?_ NB123_124.out _)|exact HI123.out)) (by (with_reducible repeat (first|apply Kd.R_alloc|apply Kd.R_drewN|apply Kd.R_drew));exact HO175.out) (by decide)) hk (fun _ h => h.2)) (fun _ h => h.1));have n6_:=Am (hb);have n7_:=Am (hi);clear HO_5;clear HO_125000;clear BK122;clear BK124;clear HO172;clear HO175;clear HB;clear HI123;have HO_5:=n0_;have HO_125000:=n1_;have BK122:=n2_;have BK124:=n3_;have HO172:=n4_;have HO175:=n5_;have HB:=n6_;have HI123:=n7_;clear n0_ n1_ n2_ n3_ n4_ n5_ n6_ n7_;(try clear hb);(try clear hb2);(try clear hk);(try clear hi)))
          go_roundg kj9
          case measure => have:=HK1.out;have:=HJ9.out;omega
          case rel => exact ⟨(y173),(x6_1),(t176),(t177),(t178),(x125000_1),(y170),(x125002_1),(x125003_1),(x125004_1),(u125000),(.slice Ao55 y170.length co55),(by first|rfl|(simp;done)|(simp [*];done)),H',⟨by have:=HK1.out;have:=HJ9.out;omega⟩,⟨by (with_reducible repeat (first|apply Kd.R_alloc|apply Kd.R_drewN|apply Kd.R_drew));exact Kd.R_mono HO175.out (fun _ hk => trivial)⟩,⟨by (with_reducible repeat (first|apply Kd.R_alloc|apply Kd.R_drewN|apply Kd.R_drew));exact HO_125000.out⟩,⟨by (with_reducible repeat (first|apply Kd.R_alloc|apply Kd.R_drewN|apply Kd.R_drew));exact HO172.out⟩,⟨by (with_reducible repeat (first|refine kN ?_ _|refine kD ?_|refine kA ?_ _));exact BK122.out⟩,⟨by (with_reducible repeat (first|refine kN ?_ _|refine kD ?_|refine kA ?_ _));exact BK124.out⟩,⟨by repeat (first|(with_reducible first|exact HI123.out|apply IsS90.alloc|apply IsS90.drewN|apply IsS90.drew|apply IsS90.set_0|apply IsS90.set_1|apply IsS90.set_2|refine IsS90.far ?_ NB123_122.out _|refine IsS90.far ?_ NB123_124.out _)|exact HI123.out)⟩,⟨by repeat (first|(with_reducible first|exact HB.out|apply bA|apply bN|apply bD|refine bS ?_ (IsS90.ge HI123.out)|refine bS ?_ GE122.out|refine bS ?_ GE124.out)|exact HB.out)⟩⟩
         ·rw [if_neg c42] at H
          exact absurd H (by simp)
        ·rw [if_neg c36] at H
         have c36b0 : (t128.toList == ([108,105,109,105,116,32] : List UInt8)) = false:=beq_eq_false_iff_ne.mpr c36
         have c36b1 : (t128.toList != ([108,105,109,105,116,32] : List UInt8)) = true:=bne_iff_ne.mpr c36
         by_cases c60 : t128.toList = ([116,114,97,105,110,32] : List UInt8)
         ·rw [if_pos c60] at H
          have c60b0 : (t128.toList == ([116,114,97,105,110,32] : List UInt8)) = true:=beq_iff_eq.mpr c60
          have c60b1 : (t128.toList != ([116,114,97,105,110,32] : List UInt8)) = false:=bne_eq_false_iff_eq.mpr c60
          clear c60
          replace H:=Option.bind_eq_some_iff.mp H
          obtain ⟨⟨t179,t180,t181,t182⟩,A610,H⟩:=H
          replace H : ((spec_l5R_must.f kj9 t180 t181 t182 (⟨#[32,101,110,100,32]⟩ : ByteArray)).bind fun bt183 => ((spec_l5R_num.f kj9 bt183.1 bt183.2.1 bt183.2.2).bind fun bt186 => ((spec_l5R_must.f kj9 bt186.2.1 bt186.2.2.1 bt186.2.2.2 (⟨#[32,100,101,108,97,121,32]⟩ : ByteArray)).bind fun bt190 => ((spec_l5R_num.f kj9 bt190.1 bt190.2.1 bt190.2.2).bind fun bt193 => ((spec_l5R_must.f kj9 bt193.2.1 bt193.2.2.1 bt193.2.2.2 (⟨#[10]⟩ : ByteArray)).bind fun bt197 => (spec_ReadProfile.l0 kj9 a0 x5_1 true bt197.1 bt197.2.1 bt197.2.2 x125000_1 x125001_1 t179 bt186.1 bt193.1)))))) = some (r1,r2,r3,r4,r5,r6,r7):=H
          have A61:=Am A610
          clear A610
          replace H:=Option.bind_eq_some_iff.mp H
          obtain ⟨⟨t183,t184,t185⟩,A620,H⟩:=H
          replace H : ((spec_l5R_num.f kj9 t183 t184 t185).bind fun bt186 => ((spec_l5R_must.f kj9 bt186.2.1 bt186.2.2.1 bt186.2.2.2 (⟨#[32,100,101,108,97,121,32]⟩ : ByteArray)).bind fun bt190 => ((spec_l5R_num.f kj9 bt190.1 bt190.2.1 bt190.2.2).bind fun bt193 => ((spec_l5R_must.f kj9 bt193.2.1 bt193.2.2.1 bt193.2.2.2 (⟨#[10]⟩ : ByteArray)).bind fun bt197 => (spec_ReadProfile.l0 kj9 a0 x5_1 true bt197.1 bt197.2.1 bt197.2.2 x125000_1 x125001_1 t179 bt186.1 bt193.1))))) = some (r1,r2,r3,r4,r5,r6,r7):=H
          have A62:=Am A620
          clear A620
          replace H:=Option.bind_eq_some_iff.mp H
          obtain ⟨⟨t186,t187,t188,t189⟩,A630,H⟩:=H
          replace H : ((spec_l5R_must.f kj9 t187 t188 t189 (⟨#[32,100,101,108,97,121,32]⟩ : ByteArray)).bind fun bt190 => ((spec_l5R_num.f kj9 bt190.1 bt190.2.1 bt190.2.2).bind fun bt193 => ((spec_l5R_must.f kj9 bt193.2.1 bt193.2.2.1 bt193.2.2.2 (⟨#[10]⟩ : ByteArray)).bind fun bt197 => (spec_ReadProfile.l0 kj9 a0 x5_1 true bt197.1 bt197.2.1 bt197.2.2 x125000_1 x125001_1 t179 t186 bt193.1)))) = some (r1,r2,r3,r4,r5,r6,r7):=H
          have A63:=Am A630
          clear A630
          replace H:=Option.bind_eq_some_iff.mp H
          obtain ⟨⟨t190,t191,t192⟩,A640,H⟩:=H
          replace H : ((spec_l5R_num.f kj9 t190 t191 t192).bind fun bt193 => ((spec_l5R_must.f kj9 bt193.2.1 bt193.2.2.1 bt193.2.2.2 (⟨#[10]⟩ : ByteArray)).bind fun bt197 => (spec_ReadProfile.l0 kj9 a0 x5_1 true bt197.1 bt197.2.1 bt197.2.2 x125000_1 x125001_1 t179 t186 bt193.1))) = some (r1,r2,r3,r4,r5,r6,r7):=H
          have A64:=Am A640
          clear A640
          replace H:=Option.bind_eq_some_iff.mp H
          obtain ⟨⟨t193,t194,t195,t196⟩,A650,H⟩:=H
          replace H : ((spec_l5R_must.f kj9 t194 t195 t196 (⟨#[10]⟩ : ByteArray)).bind fun bt197 => (spec_ReadProfile.l0 kj9 a0 x5_1 true bt197.1 bt197.2.1 bt197.2.2 x125000_1 x125001_1 t179 t186 t193)) = some (r1,r2,r3,r4,r5,r6,r7):=H
          have A65:=Am A650
          clear A650
          replace H:=Option.bind_eq_some_iff.mp H
          obtain ⟨⟨t197,t198,t199⟩,A660,H⟩:=H
          replace H : (spec_ReadProfile.l0 kj9 a0 x5_1 true t197 t198 t199 x125000_1 x125001_1 t179 t186 t193) = some (r1,r2,r3,r4,r5,r6,r7):=H
          have A66:=Am A660
          clear A660
          have H':=Am H
          clear H
          obtain ⟨Ao67,co67,eo67⟩:=Kd.R_slice HO_5.out
          subst eo67
          go_wp2_with (first|((with_reducible refine gate_callee (f:=87) rfl ?_);refine goesL_ (some 32) rfl rfl Try.func87 (by kernel_rfl) rfl #[.pointer (some ⟨gb123,0,none⟩),.slice Ao67 x5_1.length co67] rfl (by (try simp only [List.map_toArray,List.map_cons,List.map_nil]);first|done|rfl|(simp only [List.length_drop,List.length_take];rfl)) ?_;(with_reducible refine (spec_l5R_word.calls kj9 gb123 x124000_1 x124001_1 x124002_1 _ _ x5_1 t128 t129 t130 t131 w _ ?side1 ?side2 ?side3 ?side4 ?side5 A15.out).mono ?_);(case side1 => repeat (first|(with_reducible first|exact HI123.out|apply IsS90.alloc|apply IsS90.drewN|apply IsS90.drew|apply IsS90.set_0|apply IsS90.set_1|apply IsS90.set_2|refine IsS90.far ?_ NB123_122.out _|refine IsS90.far ?_ NB123_124.out _)|exact HI123.out));(case side2 => repeat (first|(with_reducible first|exact HB.out|apply bA|apply bN|apply bD|refine bS ?_ (IsS90.ge HI123.out)|refine bS ?_ GE122.out|refine bS ?_ GE124.out)|exact HB.out));(case side3 => repeat (first|exact (Kd.R_reads' HO_5.out).2.2|(with_reducible refine Kd.C_alloc ?_ _)|(with_reducible refine Kd.C_drewN ?_ _)|(with_reducible refine Kd.C_drew ?_)));(case side4 => exact (Kd.R_reads' HO_5.out).2.1);(case side5 => exact far_slice (IsS90.own_ne HI123.out HO_5.out (by decide)));rintro e w68 ⟨rfl,hi,hb,hk⟩;refine ⟨_,rfl,?_⟩;have n0_:=Am (Kd.R_mono (Kd.R_keep (IsS90.apart (show IsS90 w _ gb123 x124000_1 x124001_1 x124002_1 from by repeat (first|(with_reducible first|exact HI123.out|apply IsS90.alloc|apply IsS90.drewN|apply IsS90.drew|apply IsS90.set_0|apply IsS90.set_1|apply IsS90.set_2|refine IsS90.far ?_ NB123_122.out _|refine IsS90.far ?_ NB123_124.out _)|exact HI123.out)) (by (with_reducible repeat (first|apply Kd.R_alloc|apply Kd.R_drewN|apply Kd.R_drew));exact HO_5.out) (by decide)) hk (fun _ h => h.2)) (fun _ h => h.1));have n1_:=Am (Kd.R_mono (Kd.R_keep (IsS90.apart (show IsS90 w _ gb123 x124000_1 x124001_1 x124002_1 from by repeat (first|(with_reducible first|exact HI123.out|apply IsS90.alloc|apply IsS90.drewN|apply IsS90.drew|apply IsS90.set_0|apply IsS90.set_1|apply IsS90.set_2|refine IsS90.far ?_ NB123_122.out _|refine IsS90.far ?_ NB123_124.out _)|exact HI123.out)) (by (with_reducible repeat (first|apply Kd.R_alloc|apply Kd.R_drewN|apply Kd.R_drew));exact HO_125000.out) (by decide)) hk (fun _ h => h.2)) (fun _ h => h.1));have n2_:=Am (Kd.R_mono (Kd.R_keep (IsS90.apart (show IsS90 w _ gb123 x124000_1 x124001_1 x124002_1 from by repeat (first|(with_reducible first|exact HI123.out|apply IsS90.alloc|apply IsS90.drewN|apply IsS90.drew|apply IsS90.set_0|apply IsS90.set_1|apply IsS90.set_2|refine IsS90.far ?_ NB123_122.out _|refine IsS90.far ?_ NB123_124.out _)|exact HI123.out)) (by (with_reducible repeat (first|apply Kd.R_alloc|apply Kd.R_drewN|apply Kd.R_drew));exact HO_125001.out) (by decide)) hk (fun _ h => h.2)) (fun _ h => h.1));have n3_:=Am (KeepBut.blk hk (g':=gb122) (o:=.cells #[.int .i64 0,.int .i64 0,.slice none 0 0,.slice none 0 0,.int .i64 0,.int .i64 0,.int .i64 0] 46 (0,0)) (by (with_reducible repeat (first|refine kN ?_ _|refine kD ?_|refine kA ?_ _));exact BK122.out) NB122_123.out (by simp));have n4_:=Am (KeepBut.blk hk (g':=gb124) (o:=.cells #[u125000,u125001,.int .i64 x125002_1,.int .i64 x125003_1,.int .i64 x125004_1] 31 (0,0)) (by (with_reducible repeat (first|refine kN ?_ _|refine kD ?_|refine kA ?_ _));exact BK124.out) NB124_123.out (by simp));have n5_:=Am (hb);have n6_:=Am (hi);clear HO_5;clear HO_125000;clear HO_125001;clear BK122;clear BK124;clear HB;clear HI123;have HO_5:=n0_;have HO_125000:=n1_;have HO_125001:=n2_;have BK122:=n3_;have BK124:=n4_;have HB:=n5_;have HI123:=n6_;clear n0_ n1_ n2_ n3_ n4_ n5_ n6_;(try clear hb);(try clear hb2);(try clear hk);(try clear hi))|((with_reducible refine gate_callee (f:=88) rfl ?_);refine goesL_ (some 75) rfl rfl Try.func88 (by kernel_rfl) rfl #[.pointer (some ⟨gb123,0,none⟩)] rfl (by (try simp only [List.map_toArray,List.map_cons,List.map_nil]);first|done|rfl|(simp only [List.length_drop,List.length_take];rfl)) ?_;(with_reducible refine (spec_l5R_num.calls kj9 gb123 t129 t130 t131 t179 t180 t181 t182 w _ ?side1 ?side2 A61.out).mono ?_);(case side1 => repeat (first|(with_reducible first|exact HI123.out|apply IsS90.alloc|apply IsS90.drewN|apply IsS90.drew|apply IsS90.set_0|apply IsS90.set_1|apply IsS90.set_2|refine IsS90.far ?_ NB123_122.out _|refine IsS90.far ?_ NB123_124.out _)|exact HI123.out));(case side2 => repeat (first|(with_reducible first|exact HB.out|apply bA|apply bN|apply bD|refine bS ?_ (IsS90.ge HI123.out)|refine bS ?_ GE122.out|refine bS ?_ GE124.out)|exact HB.out));rintro e w69 ⟨rfl,hi,hb,hk⟩;refine ⟨_,rfl,?_⟩;have n0_:=Am (Kd.R_mono (Kd.R_keep (IsS90.apart (show IsS90 w _ gb123 t129 t130 t131 from by repeat (first|(with_reducible first|exact HI123.out|apply IsS90.alloc|apply IsS90.drewN|apply IsS90.drew|apply IsS90.set_0|apply IsS90.set_1|apply IsS90.set_2|refine IsS90.far ?_ NB123_122.out _|refine IsS90.far ?_ NB123_124.out _)|exact HI123.out)) (by (with_reducible repeat (first|apply Kd.R_alloc|apply Kd.R_drewN|apply Kd.R_drew));exact HO_5.out) (by decide)) hk (fun _ h => h.2)) (fun _ h => h.1));have n1_:=Am (Kd.R_mono (Kd.R_keep (IsS90.apart (show IsS90 w _ gb123 t129 t130 t131 from by repeat (first|(with_reducible first|exact HI123.out|apply IsS90.alloc|apply IsS90.drewN|apply IsS90.drew|apply IsS90.set_0|apply IsS90.set_1|apply IsS90.set_2|refine IsS90.far ?_ NB123_122.out _|refine IsS90.far ?_ NB123_124.out _)|exact HI123.out)) (by (with_reducible repeat (first|apply Kd.R_alloc|apply Kd.R_drewN|apply Kd.R_drew));exact HO_125000.out) (by decide)) hk (fun _ h => h.2)) (fun _ h => h.1));have n2_:=Am (Kd.R_mono (Kd.R_keep (IsS90.apart (show IsS90 w _ gb123 t129 t130 t131 from by repeat (first|(with_reducible first|exact HI123.out|apply IsS90.alloc|apply IsS90.drewN|apply IsS90.drew|apply IsS90.set_0|apply IsS90.set_1|apply IsS90.set_2|refine IsS90.far ?_ NB123_122.out _|refine IsS90.far ?_ NB123_124.out _)|exact HI123.out)) (by (with_reducible repeat (first|apply Kd.R_alloc|apply Kd.R_drewN|apply Kd.R_drew));exact HO_125001.out) (by decide)) hk (fun _ h => h.2)) (fun _ h => h.1));have n3_:=Am (KeepBut.blk hk (g':=gb122) (o:=.cells #[.int .i64 0,.int .i64 0,.slice none 0 0,.slice none 0 0,.int .i64 0,.int .i64 0,.int .i64 0] 46 (0,0)) (by (with_reducible repeat (first|refine kN ?_ _|refine kD ?_|refine kA ?_ _));exact BK122.out) NB122_123.out (by simp));have n4_:=Am (KeepBut.blk hk (g':=gb124) (o:=.cells #[u125000,u125001,.int .i64 x125002_1,.int .i64 x125003_1,.int .i64 x125004_1] 31 (0,0)) (by (with_reducible repeat (first|refine kN ?_ _|refine kD ?_|refine kA ?_ _));exact BK124.out) NB124_123.out (by simp));have n5_:=Am (hb);have n6_:=Am (hi);clear HO_5;clear HO_125000;clear HO_125001;clear BK122;clear BK124;clear HB;clear HI123;have HO_5:=n0_;have HO_125000:=n1_;have HO_125001:=n2_;have BK122:=n3_;have BK124:=n4_;have HB:=n5_;have HI123:=n6_;clear n0_ n1_ n2_ n3_ n4_ n5_ n6_;(try clear hb);(try clear hb2);(try clear hk);(try clear hi);have hnb70:=NB124_122.out;have hnc70:=NB122_124.out;have hnb71:=NB124_123.out;have hnc71:=NB123_124.out;have hcz72_0 : w69.cell? ⟨gb124,0,none⟩ = some (u125000):=(kC BK124.out 0).trans rfl;have hcz72_1 : w69.cell? ⟨gb124,1,none⟩ = some (u125001):=(kC BK124.out 1).trans rfl;have hcz72_2 : w69.cell? ⟨gb124,2,none⟩ = some (.int .i64 x125002_1):=(kC BK124.out 2).trans rfl;have hcz72_3 : w69.cell? ⟨gb124,3,none⟩ = some (.int .i64 x125003_1):=(kC BK124.out 3).trans rfl;have hcz72_4 : w69.cell? ⟨gb124,4,none⟩ = some (.int .i64 x125004_1):=(kC BK124.out 4).trans rfl;have hfz72_0:=kF BK124.out 0;have hfz72_1:=kF BK124.out 1;have hfz72_2:=kF BK124.out 2;have hfz72_3:=kF BK124.out 3;have hfz72_4:=kF BK124.out 4)|((with_reducible refine gate_callee (f:=89) rfl ?_);refine goesL_ (some 78) rfl rfl Try.func89 (by kernel_rfl) rfl #[.pointer (some ⟨gb123,0,none⟩),.string (⟨#[32,101,110,100,32]⟩ : ByteArray)] rfl (by (try simp only [List.map_toArray,List.map_cons,List.map_nil]);first|done|rfl|(simp only [List.length_drop,List.length_take];rfl)) ?_;(with_reducible refine (spec_l5R_must.calls kj9 gb123 t180 t181 t182 (⟨#[32,101,110,100,32]⟩ : ByteArray) t183 t184 t185 w _ ?side1 ?side2 A62.out).mono ?_);(case side1 => repeat (first|(with_reducible first|exact HI123.out|apply IsS90.alloc|apply IsS90.drewN|apply IsS90.drew|apply IsS90.set_0|apply IsS90.set_1|apply IsS90.set_2|refine IsS90.far ?_ NB123_122.out _|refine IsS90.far ?_ NB123_124.out _)|exact HI123.out));(case side2 => repeat (first|(with_reducible first|exact HB.out|apply bA|apply bN|apply bD|refine bS ?_ (IsS90.ge HI123.out)|refine bS ?_ GE122.out|refine bS ?_ GE124.out)|exact HB.out));rintro e w73 ⟨rfl,hi,hb,hk⟩;refine ⟨_,rfl,?_⟩;have n0_:=Am (Kd.R_mono (Kd.R_keep (IsS90.apart (show IsS90 w _ gb123 t180 t181 t182 from by repeat (first|(with_reducible first|exact HI123.out|apply IsS90.alloc|apply IsS90.drewN|apply IsS90.drew|apply IsS90.set_0|apply IsS90.set_1|apply IsS90.set_2|refine IsS90.far ?_ NB123_122.out _|refine IsS90.far ?_ NB123_124.out _)|exact HI123.out)) (by (with_reducible repeat (first|apply Kd.R_alloc|apply Kd.R_drewN|apply Kd.R_drew));exact (Kd.R_mono (Kd.R_far (p:=⟨gb124,2,none⟩) (Kd.R_types HO_5.out BK124.out (by decide)) (fun _ hk => hk.2) (.int .i64 t179)) (fun _ h_ => h_.1))) (by decide)) hk (fun _ h => h.2)) (fun _ h => h.1));have n1_:=Am (Kd.R_mono (Kd.R_keep (IsS90.apart (show IsS90 w _ gb123 t180 t181 t182 from by repeat (first|(with_reducible first|exact HI123.out|apply IsS90.alloc|apply IsS90.drewN|apply IsS90.drew|apply IsS90.set_0|apply IsS90.set_1|apply IsS90.set_2|refine IsS90.far ?_ NB123_122.out _|refine IsS90.far ?_ NB123_124.out _)|exact HI123.out)) (by (with_reducible repeat (first|apply Kd.R_alloc|apply Kd.R_drewN|apply Kd.R_drew));exact (Kd.R_mono (Kd.R_far (p:=⟨gb124,2,none⟩) (Kd.R_types HO_125000.out BK124.out (by decide)) (fun _ hk => hk.2) (.int .i64 t179)) (fun _ h_ => h_.1))) (by decide)) hk (fun _ h => h.2)) (fun _ h => h.1));have n2_:=Am (Kd.R_mono (Kd.R_keep (IsS90.apart (show IsS90 w _ gb123 t180 t181 t182 from by repeat (first|(with_reducible first|exact HI123.out|apply IsS90.alloc|apply IsS90.drewN|apply IsS90.drew|apply IsS90.set_0|apply IsS90.set_1|apply IsS90.set_2|refine IsS90.far ?_ NB123_122.out _|refine IsS90.far ?_ NB123_124.out _)|exact HI123.out)) (by (with_reducible repeat (first|apply Kd.R_alloc|apply Kd.R_drewN|apply Kd.R_drew));exact (Kd.R_mono (Kd.R_far (p:=⟨gb124,2,none⟩) (Kd.R_types HO_125001.out BK124.out (by decide)) (fun _ hk => hk.2) (.int .i64 t179)) (fun _ h_ => h_.1))) (by decide)) hk (fun _ h => h.2)) (fun _ h => h.1));have n3_:=Am (KeepBut.blk hk (g':=gb122) (o:=.cells #[.int .i64 0,.int .i64 0,.slice none 0 0,.slice none 0 0,.int .i64 0,.int .i64 0,.int .i64 0] 46 (0,0)) (by (with_reducible repeat (first|refine kN ?_ _|refine kD ?_|refine kA ?_ _));refine blk_far ?_ NB122_124.out _;(with_reducible repeat (first|refine kN ?_ _|refine kD ?_|refine kA ?_ _));exact BK122.out) NB122_123.out (by simp));have n4_:=Am (KeepBut.blk hk (g':=gb124) (o:=.cells #[u125000,u125001,.int .i64 t179,.int .i64 x125003_1,.int .i64 x125004_1] 31 (0,0)) (by (with_reducible repeat (first|refine kN ?_ _|refine kD ?_|refine kA ?_ _));refine blk_put (cs:=#[u125000,u125001,.int .i64 x125002_1,.int .i64 x125003_1,.int .i64 x125004_1]) ?_ 2 _ rfl;(with_reducible repeat (first|refine kN ?_ _|refine kD ?_|refine kA ?_ _));exact BK124.out) NB124_123.out (by simp));have n5_:=Am (hb);have n6_:=Am (hi);clear HO_5;clear HO_125000;clear HO_125001;clear BK122;clear BK124;clear HB;clear HI123;have HO_5:=n0_;have HO_125000:=n1_;have HO_125001:=n2_;have BK122:=n3_;have BK124:=n4_;have HB:=n5_;have HI123:=n6_;clear n0_ n1_ n2_ n3_ n4_ n5_ n6_;(try clear hb);(try clear hb2);(try clear hk);(try clear hi))|((with_reducible refine gate_callee (f:=88) rfl ?_);refine goesL_ (some 80) rfl rfl Try.func88 (by kernel_rfl) rfl #[.pointer (some ⟨gb123,0,none⟩)] rfl (by (try simp only [List.map_toArray,List.map_cons,List.map_nil]);first|done|rfl|(simp only [List.length_drop,List.length_take];rfl)) ?_;(with_reducible refine (spec_l5R_num.calls kj9 gb123 t183 t184 t185 t186 t187 t188 t189 w _ ?side1 ?side2 A63.out).mono ?_);(case side1 => repeat (first|(with_reducible first|exact HI123.out|apply IsS90.alloc|apply IsS90.drewN|apply IsS90.drew|apply IsS90.set_0|apply IsS90.set_1|apply IsS90.set_2|refine IsS90.far ?_ NB123_122.out _|refine IsS90.far ?_ NB123_124.out _)|exact HI123.out));(case side2 => repeat (first|(with_reducible first|exact HB.out|apply bA|apply bN|apply bD|refine bS ?_ (IsS90.ge HI123.out)|refine bS ?_ GE122.out|refine bS ?_ GE124.out)|exact HB.out));rintro e w74 ⟨rfl,hi,hb,hk⟩;refine ⟨_,rfl,?_⟩;have n0_:=Am (Kd.R_mono (Kd.R_keep (IsS90.apart (show IsS90 w _ gb123 t183 t184 t185 from by repeat (first|(with_reducible first|exact HI123.out|apply IsS90.alloc|apply IsS90.drewN|apply IsS90.drew|apply IsS90.set_0|apply IsS90.set_1|apply IsS90.set_2|refine IsS90.far ?_ NB123_122.out _|refine IsS90.far ?_ NB123_124.out _)|exact HI123.out)) (by (with_reducible repeat (first|apply Kd.R_alloc|apply Kd.R_drewN|apply Kd.R_drew));exact HO_5.out) (by decide)) hk (fun _ h => h.2)) (fun _ h => h.1));have n1_:=Am (Kd.R_mono (Kd.R_keep (IsS90.apart (show IsS90 w _ gb123 t183 t184 t185 from by repeat (first|(with_reducible first|exact HI123.out|apply IsS90.alloc|apply IsS90.drewN|apply IsS90.drew|apply IsS90.set_0|apply IsS90.set_1|apply IsS90.set_2|refine IsS90.far ?_ NB123_122.out _|refine IsS90.far ?_ NB123_124.out _)|exact HI123.out)) (by (with_reducible repeat (first|apply Kd.R_alloc|apply Kd.R_drewN|apply Kd.R_drew));exact HO_125000.out) (by decide)) hk (fun _ h => h.2)) (fun _ h => h.1));have n2_:=Am (Kd.R_mono (Kd.R_keep (IsS90.apart (show IsS90 w _ gb123 t183 t184 t185 from by repeat (first|(with_reducible first|exact HI123.out|apply IsS90.alloc|apply IsS90.drewN|apply IsS90.drew|apply IsS90.set_0|apply IsS90.set_1|apply IsS90.set_2|refine IsS90.far ?_ NB123_122.out _|refine IsS90.far ?_ NB123_124.out _)|exact HI123.out)) (by (with_reducible repeat (first|apply Kd.R_alloc|apply Kd.R_drewN|apply Kd.R_drew));exact HO_125001.out) (by decide)) hk (fun _ h => h.2)) (fun _ h => h.1));have n3_:=Am (KeepBut.blk hk (g':=gb122) (o:=.cells #[.int .i64 0,.int .i64 0,.slice none 0 0,.slice none 0 0,.int .i64 0,.int .i64 0,.int .i64 0] 46 (0,0)) (by (with_reducible repeat (first|refine kN ?_ _|refine kD ?_|refine kA ?_ _));exact BK122.out) NB122_123.out (by simp));have n4_:=Am (KeepBut.blk hk (g':=gb124) (o:=.cells #[u125000,u125001,.int .i64 t179,.int .i64 x125003_1,.int .i64 x125004_1] 31 (0,0)) (by (with_reducible repeat (first|refine kN ?_ _|refine kD ?_|refine kA ?_ _));exact BK124.out) NB124_123.out (by simp));have n5_:=Am (hb);have n6_:=Am (hi);clear HO_5;clear HO_125000;clear HO_125001;clear BK122;clear BK124;clear HB;clear HI123;have HO_5:=n0_;have HO_125000:=n1_;have HO_125001:=n2_;have BK122:=n3_;have BK124:=n4_;have HB:=n5_;have HI123:=n6_;clear n0_ n1_ n2_ n3_ n4_ n5_ n6_;(try clear hb);(try clear hb2);(try clear hk);(try clear hi);have hcz75_0 : w74.cell? ⟨gb124,0,none⟩ = some (u125000):=(kC BK124.out 0).trans rfl;have hcz75_1 : w74.cell? ⟨gb124,1,none⟩ = some (u125001):=(kC BK124.out 1).trans rfl;have hcz75_2 : w74.cell? ⟨gb124,2,none⟩ = some (.int .i64 t179):=(kC BK124.out 2).trans rfl;have hcz75_3 : w74.cell? ⟨gb124,3,none⟩ = some (.int .i64 x125003_1):=(kC BK124.out 3).trans rfl;have hcz75_4 : w74.cell? ⟨gb124,4,none⟩ = some (.int .i64 x125004_1):=(kC BK124.out 4).trans rfl;have hfz75_0:=kF BK124.out 0;have hfz75_1:=kF BK124.out 1;have hfz75_2:=kF BK124.out 2;have hfz75_3:=kF BK124.out 3;have hfz75_4:=kF BK124.out 4)|((with_reducible refine gate_callee (f:=89) rfl ?_);refine goesL_ (some 83) rfl rfl Try.func89 (by kernel_rfl) rfl #[.pointer (some ⟨gb123,0,none⟩),.string (⟨#[32,100,101,108,97,121,32]⟩ : ByteArray)] rfl (by (try simp only [List.map_toArray,List.map_cons,List.map_nil]);first|done|rfl|(simp only [List.length_drop,List.length_take];rfl)) ?_;(with_reducible refine (spec_l5R_must.calls kj9 gb123 t187 t188 t189 (⟨#[32,100,101,108,97,121,32]⟩ : ByteArray) t190 t191 t192 w _ ?side1 ?side2 A64.out).mono ?_);(case side1 => repeat (first|(with_reducible first|exact HI123.out|apply IsS90.alloc|apply IsS90.drewN|apply IsS90.drew|apply IsS90.set_0|apply IsS90.set_1|apply IsS90.set_2|refine IsS90.far ?_ NB123_122.out _|refine IsS90.far ?_ NB123_124.out _)|exact HI123.out));(case side2 => repeat (first|(with_reducible first|exact HB.out|apply bA|apply bN|apply bD|refine bS ?_ (IsS90.ge HI123.out)|refine bS ?_ GE122.out|refine bS ?_ GE124.out)|exact HB.out));rintro e w76 ⟨rfl,hi,hb,hk⟩;refine ⟨_,rfl,?_⟩;have n0_:=Am (Kd.R_mono (Kd.R_keep (IsS90.apart (show IsS90 w _ gb123 t187 t188 t189 from by repeat (first|(with_reducible first|exact HI123.out|apply IsS90.alloc|apply IsS90.drewN|apply IsS90.drew|apply IsS90.set_0|apply IsS90.set_1|apply IsS90.set_2|refine IsS90.far ?_ NB123_122.out _|refine IsS90.far ?_ NB123_124.out _)|exact HI123.out)) (by (with_reducible repeat (first|apply Kd.R_alloc|apply Kd.R_drewN|apply Kd.R_drew));exact (Kd.R_mono (Kd.R_far (p:=⟨gb124,3,none⟩) (Kd.R_types HO_5.out BK124.out (by decide)) (fun _ hk => hk.2) (.int .i64 t186)) (fun _ h_ => h_.1))) (by decide)) hk (fun _ h => h.2)) (fun _ h => h.1));have n1_:=Am (Kd.R_mono (Kd.R_keep (IsS90.apart (show IsS90 w _ gb123 t187 t188 t189 from by repeat (first|(with_reducible first|exact HI123.out|apply IsS90.alloc|apply IsS90.drewN|apply IsS90.drew|apply IsS90.set_0|apply IsS90.set_1|apply IsS90.set_2|refine IsS90.far ?_ NB123_122.out _|refine IsS90.far ?_ NB123_124.out _)|exact HI123.out)) (by (with_reducible repeat (first|apply Kd.R_alloc|apply Kd.R_drewN|apply Kd.R_drew));exact (Kd.R_mono (Kd.R_far (p:=⟨gb124,3,none⟩) (Kd.R_types HO_125000.out BK124.out (by decide)) (fun _ hk => hk.2) (.int .i64 t186)) (fun _ h_ => h_.1))) (by decide)) hk (fun _ h => h.2)) (fun _ h => h.1));have n2_:=Am (Kd.R_mono (Kd.R_keep (IsS90.apart (show IsS90 w _ gb123 t187 t188 t189 from by repeat (first|(with_reducible first|exact HI123.out|apply IsS90.alloc|apply IsS90.drewN|apply IsS90.drew|apply IsS90.set_0|apply IsS90.set_1|apply IsS90.set_2|refine IsS90.far ?_ NB123_122.out _|refine IsS90.far ?_ NB123_124.out _)|exact HI123.out)) (by (with_reducible repeat (first|apply Kd.R_alloc|apply Kd.R_drewN|apply Kd.R_drew));exact (Kd.R_mono (Kd.R_far (p:=⟨gb124,3,none⟩) (Kd.R_types HO_125001.out BK124.out (by decide)) (fun _ hk => hk.2) (.int .i64 t186)) (fun _ h_ => h_.1))) (by decide)) hk (fun _ h => h.2)) (fun _ h => h.1));have n3_:=Am (KeepBut.blk hk (g':=gb122) (o:=.cells #[.int .i64 0,.int .i64 0,.slice none 0 0,.slice none 0 0,.int .i64 0,.int .i64 0,.int .i64 0] 46 (0,0)) (by (with_reducible repeat (first|refine kN ?_ _|refine kD ?_|refine kA ?_ _));refine blk_far ?_ NB122_124.out _;(with_reducible repeat (first|refine kN ?_ _|refine kD ?_|refine kA ?_ _));exact BK122.out) NB122_123.out (by simp));have n4_:=Am (KeepBut.blk hk (g':=gb124) (o:=.cells #[u125000,u125001,.int .i64 t179,.int .i64 t186,.int .i64 x125004_1] 31 (0,0)) (by (with_reducible repeat (first|refine kN ?_ _|refine kD ?_|refine kA ?_ _));refine blk_put (cs:=#[u125000,u125001,.int .i64 t179,.int .i64 x125003_1,.int .i64 x125004_1]) ?_ 3 _ rfl;(with_reducible repeat (first|refine kN ?_ _|refine kD ?_|refine kA ?_ _));exact BK124.out) NB124_123.out (by simp));have n5_:=Am (hb);have n6_:=Am (hi);clear HO_5;clear HO_125000;clear HO_125001;clear BK122;clear BK124;clear HB;clear HI123;have HO_5:=n0_;have HO_125000:=n1_;have HO_125001:=n2_;have BK122:=n3_;have BK124:=n4_;have HB:=n5_;have HI123:=n6_;clear n0_ n1_ n2_ n3_ n4_ n5_ n6_;(try clear hb);(try clear hb2);(try clear hk);(try clear hi))|((with_reducible refine gate_callee (f:=88) rfl ?_);refine goesL_ (some 85) rfl rfl Try.func88 (by kernel_rfl) rfl #[.pointer (some ⟨gb123,0,none⟩)] rfl (by (try simp only [List.map_toArray,List.map_cons,List.map_nil]);first|done|rfl|(simp only [List.length_drop,List.length_take];rfl)) ?_;(with_reducible refine (spec_l5R_num.calls kj9 gb123 t190 t191 t192 t193 t194 t195 t196 w _ ?side1 ?side2 A65.out).mono ?_);(case side1 => repeat (first|(with_reducible first|exact HI123.out|apply IsS90.alloc|apply IsS90.drewN|apply IsS90.drew|apply IsS90.set_0|apply IsS90.set_1|apply IsS90.set_2|refine IsS90.far ?_ NB123_122.out _|refine IsS90.far ?_ NB123_124.out _)|exact HI123.out));(case side2 => repeat (first|(with_reducible first|exact HB.out|apply bA|apply bN|apply bD|refine bS ?_ (IsS90.ge HI123.out)|refine bS ?_ GE122.out|refine bS ?_ GE124.out)|exact HB.out));rintro e w77 ⟨rfl,hi,hb,hk⟩;refine ⟨_,rfl,?_⟩;have n0_:=Am (Kd.R_mono (Kd.R_keep (IsS90.apart (show IsS90 w _ gb123 t190 t191 t192 from by repeat (first|(with_reducible first|exact HI123.out|apply IsS90.alloc|apply IsS90.drewN|apply IsS90.drew|apply IsS90.set_0|apply IsS90.set_1|apply IsS90.set_2|refine IsS90.far ?_ NB123_122.out _|refine IsS90.far ?_ NB123_124.out _)|exact HI123.out)) (by (with_reducible repeat (first|apply Kd.R_alloc|apply Kd.R_drewN|apply Kd.R_drew));exact HO_5.out) (by decide)) hk (fun _ h => h.2)) (fun _ h => h.1));have n1_:=Am (Kd.R_mono (Kd.R_keep (IsS90.apart (show IsS90 w _ gb123 t190 t191 t192 from by repeat (first|(with_reducible first|exact HI123.out|apply IsS90.alloc|apply IsS90.drewN|apply IsS90.drew|apply IsS90.set_0|apply IsS90.set_1|apply IsS90.set_2|refine IsS90.far ?_ NB123_122.out _|refine IsS90.far ?_ NB123_124.out _)|exact HI123.out)) (by (with_reducible repeat (first|apply Kd.R_alloc|apply Kd.R_drewN|apply Kd.R_drew));exact HO_125000.out) (by decide)) hk (fun _ h => h.2)) (fun _ h => h.1));have n2_:=Am (Kd.R_mono (Kd.R_keep (IsS90.apart (show IsS90 w _ gb123 t190 t191 t192 from by repeat (first|(with_reducible first|exact HI123.out|apply IsS90.alloc|apply IsS90.drewN|apply IsS90.drew|apply IsS90.set_0|apply IsS90.set_1|apply IsS90.set_2|refine IsS90.far ?_ NB123_122.out _|refine IsS90.far ?_ NB123_124.out _)|exact HI123.out)) (by (with_reducible repeat (first|apply Kd.R_alloc|apply Kd.R_drewN|apply Kd.R_drew));exact HO_125001.out) (by decide)) hk (fun _ h => h.2)) (fun _ h => h.1));have n3_:=Am (KeepBut.blk hk (g':=gb122) (o:=.cells #[.int .i64 0,.int .i64 0,.slice none 0 0,.slice none 0 0,.int .i64 0,.int .i64 0,.int .i64 0] 46 (0,0)) (by (with_reducible repeat (first|refine kN ?_ _|refine kD ?_|refine kA ?_ _));exact BK122.out) NB122_123.out (by simp));have n4_:=Am (KeepBut.blk hk (g':=gb124) (o:=.cells #[u125000,u125001,.int .i64 t179,.int .i64 t186,.int .i64 x125004_1] 31 (0,0)) (by (with_reducible repeat (first|refine kN ?_ _|refine kD ?_|refine kA ?_ _));exact BK124.out) NB124_123.out (by simp));have n5_:=Am (hb);have n6_:=Am (hi);clear HO_5;clear HO_125000;clear HO_125001;clear BK122;clear BK124;clear HB;clear HI123;have HO_5:=n0_;have HO_125000:=n1_;have HO_125001:=n2_;have BK122:=n3_;have BK124:=n4_;have HB:=n5_;have HI123:=n6_;clear n0_ n1_ n2_ n3_ n4_ n5_ n6_;(try clear hb);(try clear hb2);(try clear hk);(try clear hi);have hcz78_0 : w77.cell? ⟨gb124,0,none⟩ = some (u125000):=(kC BK124.out 0).trans rfl;have hcz78_1 : w77.cell? ⟨gb124,1,none⟩ = some (u125001):=(kC BK124.out 1).trans rfl;have hcz78_2 : w77.cell? ⟨gb124,2,none⟩ = some (.int .i64 t179):=(kC BK124.out 2).trans rfl;have hcz78_3 : w77.cell? ⟨gb124,3,none⟩ = some (.int .i64 t186):=(kC BK124.out 3).trans rfl;have hcz78_4 : w77.cell? ⟨gb124,4,none⟩ = some (.int .i64 x125004_1):=(kC BK124.out 4).trans rfl;have hfz78_0:=kF BK124.out 0;have hfz78_1:=kF BK124.out 1;have hfz78_2:=kF BK124.out 2;have hfz78_3:=kF BK124.out 3;have hfz78_4:=kF BK124.out 4)|((with_reducible refine gate_callee (f:=89) rfl ?_);refine goesL_ (some 88) rfl rfl Try.func89 (by kernel_rfl) rfl #[.pointer (some ⟨gb123,0,none⟩),.string (⟨#[10]⟩ : ByteArray)] rfl (by (try simp only [List.map_toArray,List.map_cons,List.map_nil]);first|done|rfl|(simp only [List.length_drop,List.length_take];rfl)) ?_;(with_reducible refine (spec_l5R_must.calls kj9 gb123 t194 t195 t196 (⟨#[10]⟩ : ByteArray) t197 t198 t199 w _ ?side1 ?side2 A66.out).mono ?_);(case side1 => repeat (first|(with_reducible first|exact HI123.out|apply IsS90.alloc|apply IsS90.drewN|apply IsS90.drew|apply IsS90.set_0|apply IsS90.set_1|apply IsS90.set_2|refine IsS90.far ?_ NB123_122.out _|refine IsS90.far ?_ NB123_124.out _)|exact HI123.out));(case side2 => repeat (first|(with_reducible first|exact HB.out|apply bA|apply bN|apply bD|refine bS ?_ (IsS90.ge HI123.out)|refine bS ?_ GE122.out|refine bS ?_ GE124.out)|exact HB.out));rintro e w79 ⟨rfl,hi,hb,hk⟩;refine ⟨_,rfl,?_⟩;have n0_:=Am (Kd.R_mono (Kd.R_keep (IsS90.apart (show IsS90 w _ gb123 t194 t195 t196 from by repeat (first|(with_reducible first|exact HI123.out|apply IsS90.alloc|apply IsS90.drewN|apply IsS90.drew|apply IsS90.set_0|apply IsS90.set_1|apply IsS90.set_2|refine IsS90.far ?_ NB123_122.out _|refine IsS90.far ?_ NB123_124.out _)|exact HI123.out)) (by (with_reducible repeat (first|apply Kd.R_alloc|apply Kd.R_drewN|apply Kd.R_drew));exact (Kd.R_mono (Kd.R_far (p:=⟨gb124,4,none⟩) (Kd.R_types HO_5.out BK124.out (by decide)) (fun _ hk => hk.2) (.int .i64 t193)) (fun _ h_ => h_.1))) (by decide)) hk (fun _ h => h.2)) (fun _ h => h.1));have n1_:=Am (Kd.R_mono (Kd.R_keep (IsS90.apart (show IsS90 w _ gb123 t194 t195 t196 from by repeat (first|(with_reducible first|exact HI123.out|apply IsS90.alloc|apply IsS90.drewN|apply IsS90.drew|apply IsS90.set_0|apply IsS90.set_1|apply IsS90.set_2|refine IsS90.far ?_ NB123_122.out _|refine IsS90.far ?_ NB123_124.out _)|exact HI123.out)) (by (with_reducible repeat (first|apply Kd.R_alloc|apply Kd.R_drewN|apply Kd.R_drew));exact (Kd.R_mono (Kd.R_far (p:=⟨gb124,4,none⟩) (Kd.R_types HO_125000.out BK124.out (by decide)) (fun _ hk => hk.2) (.int .i64 t193)) (fun _ h_ => h_.1))) (by decide)) hk (fun _ h => h.2)) (fun _ h => h.1));have n2_:=Am (Kd.R_mono (Kd.R_keep (IsS90.apart (show IsS90 w _ gb123 t194 t195 t196 from by repeat (first|(with_reducible first|exact HI123.out|apply IsS90.alloc|apply IsS90.drewN|apply IsS90.drew|apply IsS90.set_0|apply IsS90.set_1|apply IsS90.set_2|refine IsS90.far ?_ NB123_122.out _|refine IsS90.far ?_ NB123_124.out _)|exact HI123.out)) (by (with_reducible repeat (first|apply Kd.R_alloc|apply Kd.R_drewN|apply Kd.R_drew));exact (Kd.R_mono (Kd.R_far (p:=⟨gb124,4,none⟩) (Kd.R_types HO_125001.out BK124.out (by decide)) (fun _ hk => hk.2) (.int .i64 t193)) (fun _ h_ => h_.1))) (by decide)) hk (fun _ h => h.2)) (fun _ h => h.1));have n3_:=Am (KeepBut.blk hk (g':=gb122) (o:=.cells #[.int .i64 0,.int .i64 0,.slice none 0 0,.slice none 0 0,.int .i64 0,.int .i64 0,.int .i64 0] 46 (0,0)) (by (with_reducible repeat (first|refine kN ?_ _|refine kD ?_|refine kA ?_ _));refine blk_far ?_ NB122_124.out _;(with_reducible repeat (first|refine kN ?_ _|refine kD ?_|refine kA ?_ _));exact BK122.out) NB122_123.out (by simp));have n4_:=Am (KeepBut.blk hk (g':=gb124) (o:=.cells #[u125000,u125001,.int .i64 t179,.int .i64 t186,.int .i64 t193] 31 (0,0)) (by (with_reducible repeat (first|refine kN ?_ _|refine kD ?_|refine kA ?_ _));refine blk_put (cs:=#[u125000,u125001,.int .i64 t179,.int .i64 t186,.int .i64 x125004_1]) ?_ 4 _ rfl;(with_reducible repeat (first|refine kN ?_ _|refine kD ?_|refine kA ?_ _));exact BK124.out) NB124_123.out (by simp));have n5_:=Am (hb);have n6_:=Am (hi);clear HO_5;clear HO_125000;clear HO_125001;clear BK122;clear BK124;clear HB;clear HI123;have HO_5:=n0_;have HO_125000:=n1_;have HO_125001:=n2_;have BK122:=n3_;have BK124:=n4_;have HB:=n5_;have HI123:=n6_;clear n0_ n1_ n2_ n3_ n4_ n5_ n6_;(try clear hb);(try clear hb2);(try clear hk);(try clear hi)))
          go_roundg kj9
          case measure => have:=HK1.out;have:=HJ9.out;omega
          case rel => exact ⟨(x5_1),(true),(t197),(t198),(t199),(x125000_1),(x125001_1),(t179),(t186),(t193),(u125000),(u125001),(by first|rfl|(simp;done)|(simp [*];done)),H',⟨by have:=HK1.out;have:=HJ9.out;omega⟩,⟨by (with_reducible repeat (first|apply Kd.R_alloc|apply Kd.R_drewN|apply Kd.R_drew));exact HO_5.out⟩,⟨by (with_reducible repeat (first|apply Kd.R_alloc|apply Kd.R_drewN|apply Kd.R_drew));exact HO_125000.out⟩,⟨by (with_reducible repeat (first|apply Kd.R_alloc|apply Kd.R_drewN|apply Kd.R_drew));exact HO_125001.out⟩,⟨by (with_reducible repeat (first|refine kN ?_ _|refine kD ?_|refine kA ?_ _));exact BK122.out⟩,⟨by (with_reducible repeat (first|refine kN ?_ _|refine kD ?_|refine kA ?_ _));exact BK124.out⟩,⟨by repeat (first|(with_reducible first|exact HI123.out|apply IsS90.alloc|apply IsS90.drewN|apply IsS90.drew|apply IsS90.set_0|apply IsS90.set_1|apply IsS90.set_2|refine IsS90.far ?_ NB123_122.out _|refine IsS90.far ?_ NB123_124.out _)|exact HI123.out)⟩,⟨by repeat (first|(with_reducible first|exact HB.out|apply bA|apply bN|apply bD|refine bS ?_ (IsS90.ge HI123.out)|refine bS ?_ GE122.out|refine bS ?_ GE124.out)|exact HB.out)⟩⟩
         ·rw [if_neg c60] at H
          have c60b0 : (t128.toList == ([116,114,97,105,110,32] : List UInt8)) = false:=beq_eq_false_iff_ne.mpr c60
          have c60b1 : (t128.toList != ([116,114,97,105,110,32] : List UInt8)) = true:=bne_iff_ne.mpr c60
          replace H:=Option.bind_eq_some_iff.mp H
          obtain ⟨⟨t200,t201,t202⟩,A800,H⟩:=H
          replace H : (spec_ReadProfile.l0 kj9 a0 x5_1 x6_1 t200 t201 t202 x125000_1 x125001_1 x125002_1 x125003_1 x125004_1) = some (r1,r2,r3,r4,r5,r6,r7):=H
          have A80:=Am A800
          clear A800
          have H':=Am H
          clear H
          obtain ⟨Ao81,co81,eo81⟩:=Kd.R_slice HO_5.out
          subst eo81
          go_wp2_with (first|((with_reducible refine gate_callee (f:=87) rfl ?_);refine goesL_ (some 32) rfl rfl Try.func87 (by kernel_rfl) rfl #[.pointer (some ⟨gb123,0,none⟩),.slice Ao81 x5_1.length co81] rfl (by (try simp only [List.map_toArray,List.map_cons,List.map_nil]);first|done|rfl|(simp only [List.length_drop,List.length_take];rfl)) ?_;(with_reducible refine (spec_l5R_word.calls kj9 gb123 x124000_1 x124001_1 x124002_1 _ _ x5_1 t128 t129 t130 t131 w _ ?side1 ?side2 ?side3 ?side4 ?side5 A15.out).mono ?_);(case side1 => repeat (first|(with_reducible first|exact HI123.out|apply IsS90.alloc|apply IsS90.drewN|apply IsS90.drew|apply IsS90.set_0|apply IsS90.set_1|apply IsS90.set_2|refine IsS90.far ?_ NB123_122.out _|refine IsS90.far ?_ NB123_124.out _)|exact HI123.out));(case side2 => repeat (first|(with_reducible first|exact HB.out|apply bA|apply bN|apply bD|refine bS ?_ (IsS90.ge HI123.out)|refine bS ?_ GE122.out|refine bS ?_ GE124.out)|exact HB.out));(case side3 => repeat (first|exact (Kd.R_reads' HO_5.out).2.2|(with_reducible refine Kd.C_alloc ?_ _)|(with_reducible refine Kd.C_drewN ?_ _)|(with_reducible refine Kd.C_drew ?_)));(case side4 => exact (Kd.R_reads' HO_5.out).2.1);(case side5 => exact far_slice (IsS90.own_ne HI123.out HO_5.out (by decide)));rintro e w82 ⟨rfl,hi,hb,hk⟩;refine ⟨_,rfl,?_⟩;have n0_:=Am (Kd.R_mono (Kd.R_keep (IsS90.apart (show IsS90 w _ gb123 x124000_1 x124001_1 x124002_1 from by repeat (first|(with_reducible first|exact HI123.out|apply IsS90.alloc|apply IsS90.drewN|apply IsS90.drew|apply IsS90.set_0|apply IsS90.set_1|apply IsS90.set_2|refine IsS90.far ?_ NB123_122.out _|refine IsS90.far ?_ NB123_124.out _)|exact HI123.out)) (by (with_reducible repeat (first|apply Kd.R_alloc|apply Kd.R_drewN|apply Kd.R_drew));exact HO_5.out) (by decide)) hk (fun _ h => h.2)) (fun _ h => h.1));have n1_:=Am (Kd.R_mono (Kd.R_keep (IsS90.apart (show IsS90 w _ gb123 x124000_1 x124001_1 x124002_1 from by repeat (first|(with_reducible first|exact HI123.out|apply IsS90.alloc|apply IsS90.drewN|apply IsS90.drew|apply IsS90.set_0|apply IsS90.set_1|apply IsS90.set_2|refine IsS90.far ?_ NB123_122.out _|refine IsS90.far ?_ NB123_124.out _)|exact HI123.out)) (by (with_reducible repeat (first|apply Kd.R_alloc|apply Kd.R_drewN|apply Kd.R_drew));exact HO_125000.out) (by decide)) hk (fun _ h => h.2)) (fun _ h => h.1));have n2_:=Am (Kd.R_mono (Kd.R_keep (IsS90.apart (show IsS90 w _ gb123 x124000_1 x124001_1 x124002_1 from by repeat (first|(with_reducible first|exact HI123.out|apply IsS90.alloc|apply IsS90.drewN|apply IsS90.drew|apply IsS90.set_0|apply IsS90.set_1|apply IsS90.set_2|refine IsS90.far ?_ NB123_122.out _|refine IsS90.far ?_ NB123_124.out _)|exact HI123.out)) (by (with_reducible repeat (first|apply Kd.R_alloc|apply Kd.R_drewN|apply Kd.R_drew));exact HO_125001.out) (by decide)) hk (fun _ h => h.2)) (fun _ h => h.1));have n3_:=Am (KeepBut.blk hk (g':=gb122) (o:=.cells #[.int .i64 0,.int .i64 0,.slice none 0 0,.slice none 0 0,.int .i64 0,.int .i64 0,.int .i64 0] 46 (0,0)) (by (with_reducible repeat (first|refine kN ?_ _|refine kD ?_|refine kA ?_ _));exact BK122.out) NB122_123.out (by simp));have n4_:=Am (KeepBut.blk hk (g':=gb124) (o:=.cells #[u125000,u125001,.int .i64 x125002_1,.int .i64 x125003_1,.int .i64 x125004_1] 31 (0,0)) (by (with_reducible repeat (first|refine kN ?_ _|refine kD ?_|refine kA ?_ _));exact BK124.out) NB124_123.out (by simp));have n5_:=Am (hb);have n6_:=Am (hi);clear HO_5;clear HO_125000;clear HO_125001;clear BK122;clear BK124;clear HB;clear HI123;have HO_5:=n0_;have HO_125000:=n1_;have HO_125001:=n2_;have BK122:=n3_;have BK124:=n4_;have HB:=n5_;have HI123:=n6_;clear n0_ n1_ n2_ n3_ n4_ n5_ n6_;(try clear hb);(try clear hb2);(try clear hk);(try clear hi))|((with_reducible refine gate_callee (f:=89) rfl ?_);refine goesL_ (some 88) rfl rfl Try.func89 (by kernel_rfl) rfl #[.pointer (some ⟨gb123,0,none⟩),.string (⟨#[10]⟩ : ByteArray)] rfl (by (try simp only [List.map_toArray,List.map_cons,List.map_nil]);first|done|rfl|(simp only [List.length_drop,List.length_take];rfl)) ?_;(with_reducible refine (spec_l5R_must.calls kj9 gb123 t129 t130 t131 (⟨#[10]⟩ : ByteArray) t200 t201 t202 w _ ?side1 ?side2 A80.out).mono ?_);(case side1 => repeat (first|(with_reducible first|exact HI123.out|apply IsS90.alloc|apply IsS90.drewN|apply IsS90.drew|apply IsS90.set_0|apply IsS90.set_1|apply IsS90.set_2|refine IsS90.far ?_ NB123_122.out _|refine IsS90.far ?_ NB123_124.out _)|exact HI123.out));(case side2 => repeat (first|(with_reducible first|exact HB.out|apply bA|apply bN|apply bD|refine bS ?_ (IsS90.ge HI123.out)|refine bS ?_ GE122.out|refine bS ?_ GE124.out)|exact HB.out));rintro e w83 ⟨rfl,hi,hb,hk⟩;refine ⟨_,rfl,?_⟩;have n0_:=Am (Kd.R_mono (Kd.R_keep (IsS90.apart (show IsS90 w _ gb123 t129 t130 t131 from by repeat (first|(with_reducible first|exact HI123.out|apply IsS90.alloc|apply IsS90.drewN|apply IsS90.drew|apply IsS90.set_0|apply IsS90.set_1|apply IsS90.set_2|refine IsS90.far ?_ NB123_122.out _|refine IsS90.far ?_ NB123_124.out _)|exact HI123.out)) (by (with_reducible repeat (first|apply Kd.R_alloc|apply Kd.R_drewN|apply Kd.R_drew));exact HO_5.out) (by decide)) hk (fun _ h => h.2)) (fun _ h => h.1));have n1_:=Am (Kd.R_mono (Kd.R_keep (IsS90.apart (show IsS90 w _ gb123 t129 t130 t131 from by repeat (first|(with_reducible first|exact HI123.out|apply IsS90.alloc|apply IsS90.drewN|apply IsS90.drew|apply IsS90.set_0|apply IsS90.set_1|apply IsS90.set_2|refine IsS90.far ?_ NB123_122.out _|refine IsS90.far ?_ NB123_124.out _)|exact HI123.out)) (by (with_reducible repeat (first|apply Kd.R_alloc|apply Kd.R_drewN|apply Kd.R_drew));exact HO_125000.out) (by decide)) hk (fun _ h => h.2)) (fun _ h => h.1));have n2_:=Am (Kd.R_mono (Kd.R_keep (IsS90.apart (show IsS90 w _ gb123 t129 t130 t131 from by repeat (first|(with_reducible first|exact HI123.out|apply IsS90.alloc|apply IsS90.drewN|apply IsS90.drew|apply IsS90.set_0|apply IsS90.set_1|apply IsS90.set_2|refine IsS90.far ?_ NB123_122.out _|refine IsS90.far ?_ NB123_124.out _)|exact HI123.out)) (by (with_reducible repeat (first|apply Kd.R_alloc|apply Kd.R_drewN|apply Kd.R_drew));exact HO_125001.out) (by decide)) hk (fun _ h => h.2)) (fun _ h => h.1));have n3_:=Am (KeepBut.blk hk (g':=gb122) (o:=.cells #[.int .i64 0,.int .i64 0,.slice none 0 0,.slice none 0 0,.int .i64 0,.int .i64 0,.int .i64 0] 46 (0,0)) (by (with_reducible repeat (first|refine kN ?_ _|refine kD ?_|refine kA ?_ _));exact BK122.out) NB122_123.out (by simp));have n4_:=Am (KeepBut.blk hk (g':=gb124) (o:=.cells #[u125000,u125001,.int .i64 x125002_1,.int .i64 x125003_1,.int .i64 x125004_1] 31 (0,0)) (by (with_reducible repeat (first|refine kN ?_ _|refine kD ?_|refine kA ?_ _));exact BK124.out) NB124_123.out (by simp));have n5_:=Am (hb);have n6_:=Am (hi);clear HO_5;clear HO_125000;clear HO_125001;clear BK122;clear BK124;clear HB;clear HI123;have HO_5:=n0_;have HO_125000:=n1_;have HO_125001:=n2_;have BK122:=n3_;have BK124:=n4_;have HB:=n5_;have HI123:=n6_;clear n0_ n1_ n2_ n3_ n4_ n5_ n6_;(try clear hb);(try clear hb2);(try clear hk);(try clear hi)))
          go_roundg kj9
          case measure => have:=HK1.out;have:=HJ9.out;omega
          case rel => exact ⟨(x5_1),(x6_1),(t200),(t201),(t202),(x125000_1),(x125001_1),(x125002_1),(x125003_1),(x125004_1),(u125000),(u125001),(by first|rfl|(simp;done)|(simp [*];done)),H',⟨by have:=HK1.out;have:=HJ9.out;omega⟩,⟨by (with_reducible repeat (first|apply Kd.R_alloc|apply Kd.R_drewN|apply Kd.R_drew));exact HO_5.out⟩,⟨by (with_reducible repeat (first|apply Kd.R_alloc|apply Kd.R_drewN|apply Kd.R_drew));exact HO_125000.out⟩,⟨by (with_reducible repeat (first|apply Kd.R_alloc|apply Kd.R_drewN|apply Kd.R_drew));exact HO_125001.out⟩,⟨by (with_reducible repeat (first|refine kN ?_ _|refine kD ?_|refine kA ?_ _));exact BK122.out⟩,⟨by (with_reducible repeat (first|refine kN ?_ _|refine kD ?_|refine kA ?_ _));exact BK124.out⟩,⟨by repeat (first|(with_reducible first|exact HI123.out|apply IsS90.alloc|apply IsS90.drewN|apply IsS90.drew|apply IsS90.set_0|apply IsS90.set_1|apply IsS90.set_2|refine IsS90.far ?_ NB123_122.out _|refine IsS90.far ?_ NB123_124.out _)|exact HI123.out)⟩,⟨by repeat (first|(with_reducible first|exact HB.out|apply bA|apply bN|apply bD|refine bS ?_ (IsS90.ge HI123.out)|refine bS ?_ GE122.out|refine bS ?_ GE124.out)|exact HB.out)⟩⟩
      ·replace c14:=Bool.eq_false_iff.mpr c14
       subst c14
       have H1 : (if x124002_1 < 0 then (spec_ReadProfile.j2 kj9 (decide (x124001_1 < (a0.size : Int))) x124000_1 x124001_1 x124002_1 x125000_1 x125001_1 x125002_1 x125003_1 x125004_1) else (spec_ReadProfile.j2 kj9 false x124000_1 x124001_1 x124002_1 x125000_1 x125001_1 x125002_1 x125003_1 x125004_1)) = some (r1,r2,r3,r4,r5,r6,r7):=by rw [if_neg (show ¬ (false = true) by decide)] at H;exact H
       clear H
       have H:=H1
       clear H1
       have HC84:=Am H
       clear H
       go_upto_region 31 with (fail)
       go_cut [102] (fun v102 wc => ∃ (kq : Nat) (x102_83 : Bool),v102 = .bool x102_83∧As (spec_ReadProfile.j2 kq x102_83 x124000_1 x124001_1 x124002_1 x125000_1 x125001_1 x125002_1 x125003_1 x125004_1 = some (r1,r2,r3,r4,r5,r6,r7))∧As (kq ≤ kj9)∧As (Kd.R k71 71 wc w.heap.size (fun _ => True) u125000 x125000_1)∧As (Kd.R k75 75 wc w.heap.size (fun _ => True) u125001 x125001_1)∧As (wc.heap[gb122]? = some (.cells #[.int .i64 0,.int .i64 0,(.slice none 0 0),(.slice none 0 0),.int .i64 0,.int .i64 0,.int .i64 0] 46 (0,0)))∧As (wc.heap[gb124]? = some (.cells #[u125000,u125001,.int .i64 x125002_1,.int .i64 x125003_1,.int .i64 x125004_1] 31 (0,0)))∧As (IsS90 w wc gb123 x124000_1 x124001_1 x124002_1)∧As (Below w.heap.size w wc))
       case first =>
        have H:=HC84.out
        clear HC84
        by_cases c85 : x124002_1 < 0
        ·rw [if_pos c85] at H
         have c85b0 : decide (x124002_1 < 0) = true:=decide_eq_true c85
         clear c85
         (first|rw [c85b0]|(simp only [i64_w,i32_w];rw [c85b0])|skip)
         have H':=Am H
         clear H
         obtain ⟨HGz86,hgz86⟩:=HI123.out
         have hcz86_0:=cellS90_0 HGz86
         have hcz86_1:=cellS90_1 HGz86
         have hcz86_2:=cellS90_2 HGz86
         have hfz86_0:=kF HGz86 0
         have hfz86_1:=kF HGz86 1
         have hfz86_2:=kF HGz86 2
         clear HGz86 hgz86
         go_wp2
         go_meet
         case rel => exact ⟨_,(decide (x124001_1 < (a0.size : Int))),(by first|rfl|(simp;done)|(simp [*];done)),H',⟨by have:=HK1.out;have:=HJ9.out;first|omega|exact Nat.le_refl _⟩,⟨by (with_reducible repeat (first|apply Kd.R_alloc|apply Kd.R_drewN|apply Kd.R_drew));exact HO_125000.out⟩,⟨by (with_reducible repeat (first|apply Kd.R_alloc|apply Kd.R_drewN|apply Kd.R_drew));exact HO_125001.out⟩,⟨by (with_reducible repeat (first|refine kN ?_ _|refine kD ?_|refine kA ?_ _));exact BK122.out⟩,⟨by (with_reducible repeat (first|refine kN ?_ _|refine kD ?_|refine kA ?_ _));exact BK124.out⟩,⟨by repeat (first|(with_reducible first|exact HI123.out|apply IsS90.alloc|apply IsS90.drewN|apply IsS90.drew|apply IsS90.set_0|apply IsS90.set_1|apply IsS90.set_2|refine IsS90.far ?_ NB123_122.out _|refine IsS90.far ?_ NB123_124.out _)|exact HI123.out)⟩,⟨by repeat (first|(with_reducible first|exact HB.out|apply bA|apply bN|apply bD|refine bS ?_ (IsS90.ge HI123.out)|refine bS ?_ GE122.out|refine bS ?_ GE124.out)|exact HB.out)⟩⟩
        ·rw [if_neg c85] at H
         have c85b0 : decide (x124002_1 < 0) = false:=decide_eq_false c85
         clear c85
         (first|rw [c85b0]|(simp only [i64_w,i32_w];rw [c85b0])|skip)
         have H':=Am H
         clear H
         obtain ⟨HGz87,hgz87⟩:=HI123.out
         have hcz87_0:=cellS90_0 HGz87
         have hcz87_1:=cellS90_1 HGz87
         have hcz87_2:=cellS90_2 HGz87
         have hfz87_0:=kF HGz87 0
         have hfz87_1:=kF HGz87 1
         have hfz87_2:=kF HGz87 2
         clear HGz87 hgz87
         go_wp2
         go_meet
         case rel => exact ⟨_,(false),(by first|rfl|(simp;done)|(simp [*];done)),H',⟨by have:=HK1.out;have:=HJ9.out;first|omega|exact Nat.le_refl _⟩,⟨by (with_reducible repeat (first|apply Kd.R_alloc|apply Kd.R_drewN|apply Kd.R_drew));exact HO_125000.out⟩,⟨by (with_reducible repeat (first|apply Kd.R_alloc|apply Kd.R_drewN|apply Kd.R_drew));exact HO_125001.out⟩,⟨by (with_reducible repeat (first|refine kN ?_ _|refine kD ?_|refine kA ?_ _));exact BK122.out⟩,⟨by (with_reducible repeat (first|refine kN ?_ _|refine kD ?_|refine kA ?_ _));exact BK124.out⟩,⟨by repeat (first|(with_reducible first|exact HI123.out|apply IsS90.alloc|apply IsS90.drewN|apply IsS90.drew|apply IsS90.set_0|apply IsS90.set_1|apply IsS90.set_2|refine IsS90.far ?_ NB123_122.out _|refine IsS90.far ?_ NB123_124.out _)|exact HI123.out)⟩,⟨by repeat (first|(with_reducible first|exact HB.out|apply bA|apply bN|apply bD|refine bS ?_ (IsS90.ge HI123.out)|refine bS ?_ GE122.out|refine bS ?_ GE124.out)|exact HB.out)⟩⟩
       case rest =>
        clear HC84
        try clear c1
        try clear c2
        try clear c2b0
        try clear c2b1
        try clear p2
        try clear c3
        try clear c4
        try clear c5
        try clear c6
        try clear c7
        try clear c8
        try clear c11
        try clear c11b0
        try clear c14
        try clear c16
        try clear c16b0
        try clear c16b1
        try clear c20
        try clear c27
        try clear c28
        try clear c33
        try clear c36
        try clear c36b0
        try clear c36b1
        try clear c42
        try clear c51
        try clear c52
        try clear c60
        try clear c60b0
        try clear c60b1
        try clear c70
        try clear c71
        try clear c85
        try clear c85b0
        try clear c87
        try clear hcz12_0
        try clear hcz12_1
        try clear hcz12_2
        try clear hcz13_0
        try clear hcz13_1
        try clear hcz13_2
        try clear hcz29_0
        try clear hcz29_1
        try clear hcz29_2
        try clear hcz29_3
        try clear hcz29_4
        try clear hcz32_0
        try clear hcz32_1
        try clear hcz32_2
        try clear hcz32_3
        try clear hcz32_4
        try clear hcz4_0
        try clear hcz4_1
        try clear hcz4_2
        try clear hcz4_3
        try clear hcz4_4
        try clear hcz4_5
        try clear hcz4_6
        try clear hcz53_0
        try clear hcz53_1
        try clear hcz53_2
        try clear hcz53_3
        try clear hcz53_4
        try clear hcz56_0
        try clear hcz56_1
        try clear hcz56_2
        try clear hcz56_3
        try clear hcz56_4
        try clear hcz72_0
        try clear hcz72_1
        try clear hcz72_2
        try clear hcz72_3
        try clear hcz72_4
        try clear hcz75_0
        try clear hcz75_1
        try clear hcz75_2
        try clear hcz75_3
        try clear hcz75_4
        try clear hcz78_0
        try clear hcz78_1
        try clear hcz78_2
        try clear hcz78_3
        try clear hcz78_4
        try clear hcz86_0
        try clear hcz86_1
        try clear hcz86_2
        try clear hcz87_0
        try clear hcz87_1
        try clear hcz87_2
        try clear hfz12_0
        try clear hfz12_1
        try clear hfz12_2
        try clear hfz13_0
        try clear hfz13_1
        try clear hfz13_2
        try clear hfz29_0
        try clear hfz29_1
        try clear hfz29_2
        try clear hfz29_3
        try clear hfz29_4
        try clear hfz32_0
        try clear hfz32_1
        try clear hfz32_2
        try clear hfz32_3
        try clear hfz32_4
        try clear hfz4_0
        try clear hfz4_1
        try clear hfz4_2
        try clear hfz4_3
        try clear hfz4_4
        try clear hfz4_5
        try clear hfz4_6
        try clear hfz53_0
        try clear hfz53_1
        try clear hfz53_2
        try clear hfz53_3
        try clear hfz53_4
        try clear hfz56_0
        try clear hfz56_1
        try clear hfz56_2
        try clear hfz56_3
        try clear hfz56_4
        try clear hfz72_0
        try clear hfz72_1
        try clear hfz72_2
        try clear hfz72_3
        try clear hfz72_4
        try clear hfz75_0
        try clear hfz75_1
        try clear hfz75_2
        try clear hfz75_3
        try clear hfz75_4
        try clear hfz78_0
        try clear hfz78_1
        try clear hfz78_2
        try clear hfz78_3
        try clear hfz78_4
        try clear hfz86_0
        try clear hfz86_1
        try clear hfz86_2
        try clear hfz87_0
        try clear hfz87_1
        try clear hfz87_2
        try clear p2
        obtain ⟨kq,x102_83,rfl,HA,HJ83,HO_125000,HO_125001,BK122,BK124,HI123,HB⟩:=hcut
        cases kq with
        | zero => exact absurd HA.out (by simp [spec_ReadProfile.j2])
        | succ kj83 =>
         have H:=HA.out
         clear HA
         simp only [spec_ReadProfile.j2] at H
         have HC88:=Am H
         clear H
         go_upto_if 102 with (fail)
         go_cut [] (fun wc => ∃ (kq : Nat) (x124002_87 : Int),As (spec_ReadProfile.j3 kq x124000_1 x124001_1 x124002_87 x125000_1 x125001_1 x125002_1 x125003_1 x125004_1 = some (r1,r2,r3,r4,r5,r6,r7))∧As (kq ≤ kj83)∧As (Kd.R k71 71 wc w.heap.size (fun _ => True) u125000 x125000_1)∧As (Kd.R k75 75 wc w.heap.size (fun _ => True) u125001 x125001_1)∧As (wc.heap[gb122]? = some (.cells #[.int .i64 0,.int .i64 0,(.slice none 0 0),(.slice none 0 0),.int .i64 0,.int .i64 0,.int .i64 0] 46 (0,0)))∧As (wc.heap[gb124]? = some (.cells #[u125000,u125001,.int .i64 x125002_1,.int .i64 x125003_1,.int .i64 x125004_1] 31 (0,0)))∧As (IsS90 w wc gb123 x124000_1 x124001_1 x124002_87)∧As (Below w.heap.size w wc))
         case first =>
          have H:=HC88.out
          clear HC88
          by_cases c89 : x102_83 = true
          ·subst c89
           have H1 : (spec_ReadProfile.j3 kj83 x124000_1 x124001_1 x124001_1 x125000_1 x125001_1 x125002_1 x125003_1 x125004_1) = some (r1,r2,r3,r4,r5,r6,r7):=by rw [if_pos rfl] at H;exact H
           clear H
           have H:=H1
           clear H1
           have H':=Am H
           clear H
           obtain ⟨HGz90,hgz90⟩:=HI123.out
           have hcz90_0:=cellS90_0 HGz90
           have hcz90_1:=cellS90_1 HGz90
           have hcz90_2:=cellS90_2 HGz90
           have hfz90_0:=kF HGz90 0
           have hfz90_1:=kF HGz90 1
           have hfz90_2:=kF HGz90 2
           clear HGz90 hgz90
           go_wp2
           go_meet
           case rel => exact ⟨_,(x124001_1),H',⟨by have:=HK1.out;have:=HJ9.out;have:=HJ83.out;first|omega|exact Nat.le_refl _⟩,⟨by (with_reducible repeat (first|apply Kd.R_alloc|apply Kd.R_drewN|apply Kd.R_drew));exact Kd.R_mono (Kd.R_far (p:=⟨gb123,2,none⟩) (IsS90.apart HI123.out HO_125000.out (by decide)) (fun _ hk => hk.2) (.int .i64 x124001_1)) (fun _ hk => trivial)⟩,⟨by (with_reducible repeat (first|apply Kd.R_alloc|apply Kd.R_drewN|apply Kd.R_drew));exact Kd.R_mono (Kd.R_far (p:=⟨gb123,2,none⟩) (IsS90.apart HI123.out HO_125001.out (by decide)) (fun _ hk => hk.2) (.int .i64 x124001_1)) (fun _ hk => trivial)⟩,⟨by (with_reducible repeat (first|refine kN ?_ _|refine kD ?_|refine kA ?_ _));refine blk_far ?_ NB122_123.out _;(with_reducible repeat (first|refine kN ?_ _|refine kD ?_|refine kA ?_ _));exact BK122.out⟩,⟨by (with_reducible repeat (first|refine kN ?_ _|refine kD ?_|refine kA ?_ _));refine blk_far ?_ NB124_123.out _;(with_reducible repeat (first|refine kN ?_ _|refine kD ?_|refine kA ?_ _));exact BK124.out⟩,⟨by repeat (first|(with_reducible first|exact HI123.out|apply IsS90.alloc|apply IsS90.drewN|apply IsS90.drew|apply IsS90.set_0|apply IsS90.set_1|apply IsS90.set_2|refine IsS90.far ?_ NB123_122.out _|refine IsS90.far ?_ NB123_124.out _)|exact HI123.out)⟩,⟨by repeat (first|(with_reducible first|exact HB.out|apply bA|apply bN|apply bD|refine bS ?_ (IsS90.ge HI123.out)|refine bS ?_ GE122.out|refine bS ?_ GE124.out)|exact HB.out)⟩⟩
          ·replace c89:=Bool.eq_false_iff.mpr c89
           subst c89
           have H1 : (spec_ReadProfile.j3 kj83 x124000_1 x124001_1 x124002_1 x125000_1 x125001_1 x125002_1 x125003_1 x125004_1) = some (r1,r2,r3,r4,r5,r6,r7):=by rw [if_neg (show ¬ (false = true) by decide)] at H;exact H
           clear H
           have H:=H1
           clear H1
           have H':=Am H
           clear H
           go_wp2
           go_meet
           case rel => exact ⟨_,(x124002_1),H',⟨by have:=HK1.out;have:=HJ9.out;have:=HJ83.out;first|omega|exact Nat.le_refl _⟩,⟨by (with_reducible repeat (first|apply Kd.R_alloc|apply Kd.R_drewN|apply Kd.R_drew));exact HO_125000.out⟩,⟨by (with_reducible repeat (first|apply Kd.R_alloc|apply Kd.R_drewN|apply Kd.R_drew));exact HO_125001.out⟩,⟨by (with_reducible repeat (first|refine kN ?_ _|refine kD ?_|refine kA ?_ _));exact BK122.out⟩,⟨by (with_reducible repeat (first|refine kN ?_ _|refine kD ?_|refine kA ?_ _));exact BK124.out⟩,⟨by repeat (first|(with_reducible first|exact HI123.out|apply IsS90.alloc|apply IsS90.drewN|apply IsS90.drew|apply IsS90.set_0|apply IsS90.set_1|apply IsS90.set_2|refine IsS90.far ?_ NB123_122.out _|refine IsS90.far ?_ NB123_124.out _)|exact HI123.out)⟩,⟨by repeat (first|(with_reducible first|exact HB.out|apply bA|apply bN|apply bD|refine bS ?_ (IsS90.ge HI123.out)|refine bS ?_ GE122.out|refine bS ?_ GE124.out)|exact HB.out)⟩⟩
         case rest =>
          clear HC88
          try clear c1
          try clear c2
          try clear c2b0
          try clear c2b1
          try clear p2
          try clear c3
          try clear c4
          try clear c5
          try clear c6
          try clear c7
          try clear c8
          try clear c11
          try clear c11b0
          try clear c14
          try clear c16
          try clear c16b0
          try clear c16b1
          try clear c20
          try clear c27
          try clear c28
          try clear c33
          try clear c36
          try clear c36b0
          try clear c36b1
          try clear c42
          try clear c51
          try clear c52
          try clear c60
          try clear c60b0
          try clear c60b1
          try clear c70
          try clear c71
          try clear c85
          try clear c85b0
          try clear c87
          try clear c88
          try clear c89
          try clear hcz12_0
          try clear hcz12_1
          try clear hcz12_2
          try clear hcz13_0
          try clear hcz13_1
          try clear hcz13_2
          try clear hcz29_0
          try clear hcz29_1
          try clear hcz29_2
          try clear hcz29_3
          try clear hcz29_4
          try clear hcz32_0
          try clear hcz32_1
          try clear hcz32_2
          try clear hcz32_3
          try clear hcz32_4
          try clear hcz4_0
          try clear hcz4_1
          try clear hcz4_2
          try clear hcz4_3
          try clear hcz4_4
          try clear hcz4_5
          try clear hcz4_6
          try clear hcz53_0
          try clear hcz53_1
          try clear hcz53_2
          try clear hcz53_3
          try clear hcz53_4
          try clear hcz56_0
          try clear hcz56_1
          try clear hcz56_2
          try clear hcz56_3
          try clear hcz56_4
          try clear hcz72_0
          try clear hcz72_1
          try clear hcz72_2
          try clear hcz72_3
          try clear hcz72_4
          try clear hcz75_0
          try clear hcz75_1
          try clear hcz75_2
          try clear hcz75_3
          try clear hcz75_4
          try clear hcz78_0
          try clear hcz78_1
          try clear hcz78_2
          try clear hcz78_3
          try clear hcz78_4
          try clear hcz86_0
          try clear hcz86_1
          try clear hcz86_2
          try clear hcz87_0
          try clear hcz87_1
          try clear hcz87_2
          try clear hcz90_0
          try clear hcz90_1
          try clear hcz90_2
          try clear hfz12_0
          try clear hfz12_1
          try clear hfz12_2
          try clear hfz13_0
          try clear hfz13_1
          try clear hfz13_2
          try clear hfz29_0
          try clear hfz29_1
          try clear hfz29_2
          try clear hfz29_3
          try clear hfz29_4
          try clear hfz32_0
          try clear hfz32_1
          try clear hfz32_2
          try clear hfz32_3
          try clear hfz32_4
          try clear hfz4_0
          try clear hfz4_1
          try clear hfz4_2
          try clear hfz4_3
          try clear hfz4_4
          try clear hfz4_5
          try clear hfz4_6
          try clear hfz53_0
          try clear hfz53_1
          try clear hfz53_2
          try clear hfz53_3
          try clear hfz53_4
          try clear hfz56_0
          try clear hfz56_1
          try clear hfz56_2
          try clear hfz56_3
          try clear hfz56_4
          try clear hfz72_0
          try clear hfz72_1
          try clear hfz72_2
          try clear hfz72_3
          try clear hfz72_4
          try clear hfz75_0
          try clear hfz75_1
          try clear hfz75_2
          try clear hfz75_3
          try clear hfz75_4
          try clear hfz78_0
          try clear hfz78_1
          try clear hfz78_2
          try clear hfz78_3
          try clear hfz78_4
          try clear hfz86_0
          try clear hfz86_1
          try clear hfz86_2
          try clear hfz87_0
          try clear hfz87_1
          try clear hfz87_2
          try clear hfz90_0
          try clear hfz90_1
          try clear hfz90_2
          try clear p2
          obtain ⟨kq,x124002_87,HA,HJ87,HO_125000,HO_125001,BK122,BK124,HI123,HB⟩:=hcut
          cases kq with
          | zero => exact absurd HA.out (by simp [spec_ReadProfile.j3])
          | succ kj87 =>
           have H:=HA.out
           clear HA
           simp only [spec_ReadProfile.j3] at H
           by_cases c91 : x124002_87 ≥ 0
           ·rw [if_pos c91] at H
            have c91b0 : decide (0 ≤ x124002_87) = true:=decide_eq_true c91
            clear c91
            simp only [Option.some.injEq,Prod.mk.injEq] at H
            obtain ⟨rfl,rfl,rfl,rfl,rfl,rfl,rfl⟩:=H
            obtain ⟨HGz92,hgz92⟩:=HI123.out
            have hcz92_0:=cellS90_0 HGz92
            have hcz92_1:=cellS90_1 HGz92
            have hcz92_2:=cellS90_2 HGz92
            have hfz92_0:=kF HGz92 0
            have hfz92_1:=kF HGz92 1
            have hfz92_2:=kF HGz92 2
            clear HGz92 hgz92
            have hnb93:=NB122_124.out
            have hnc93:=NB124_122.out
            have hnb94:=NB122_123.out
            have hnc94:=NB123_122.out
            have hcz95_0 : wc.cell? ⟨gb122,0,none⟩ = some (.int .i64 0):=(kC BK122.out 0).trans rfl
            have hcz95_1 : wc.cell? ⟨gb122,1,none⟩ = some (.int .i64 0):=(kC BK122.out 1).trans rfl
            have hcz95_2 : wc.cell? ⟨gb122,2,none⟩ = some (.slice none 0 0):=(kC BK122.out 2).trans rfl
            have hcz95_3 : wc.cell? ⟨gb122,3,none⟩ = some (.slice none 0 0):=(kC BK122.out 3).trans rfl
            have hcz95_4 : wc.cell? ⟨gb122,4,none⟩ = some (.int .i64 0):=(kC BK122.out 4).trans rfl
            have hcz95_5 : wc.cell? ⟨gb122,5,none⟩ = some (.int .i64 0):=(kC BK122.out 5).trans rfl
            have hcz95_6 : wc.cell? ⟨gb122,6,none⟩ = some (.int .i64 0):=(kC BK122.out 6).trans rfl
            have hfz95_0:=kF BK122.out 0
            have hfz95_1:=kF BK122.out 1
            have hfz95_2:=kF BK122.out 2
            have hfz95_3:=kF BK122.out 3
            have hfz95_4:=kF BK122.out 4
            have hfz95_5:=kF BK122.out 5
            have hfz95_6:=kF BK122.out 6
            go_wp2
            refine bodyPost_ret (results_cell_row rfl _ _ gb122 46 #[.int .i64 1,.int .i64 x124002_87,.slice none 0 0,.slice none 0 0,.int .i64 0,.int .i64 0,.int .i64 0] (0,0) _ rfl (by (with_reducible repeat (first|refine kN ?_ _|refine kD ?_|refine kA ?_ _));refine blk_put (cs:=#[.int .i64 1,.int .i64 x124002_87,.slice none 0 0,.slice none 0 0,.int .i64 0,.int .i64 0,.int .i64 0]) ?_ 6 _ rfl;(with_reducible repeat (first|refine kN ?_ _|refine kD ?_|refine kA ?_ _));refine blk_put (cs:=#[.int .i64 1,.int .i64 x124002_87,.slice none 0 0,.slice none 0 0,.int .i64 0,.int .i64 0,.int .i64 0]) ?_ 5 _ rfl;(with_reducible repeat (first|refine kN ?_ _|refine kD ?_|refine kA ?_ _));refine blk_put (cs:=#[.int .i64 1,.int .i64 x124002_87,.slice none 0 0,.slice none 0 0,.int .i64 0,.int .i64 0,.int .i64 0]) ?_ 4 _ rfl;(with_reducible repeat (first|refine kN ?_ _|refine kD ?_|refine kA ?_ _));refine blk_put (cs:=#[.int .i64 1,.int .i64 x124002_87,.slice none 0 0,.slice none 0 0,.int .i64 0,.int .i64 0,.int .i64 0]) ?_ 3 _ rfl;(with_reducible repeat (first|refine kN ?_ _|refine kD ?_|refine kA ?_ _));refine blk_put (cs:=#[.int .i64 1,.int .i64 x124002_87,.slice none 0 0,.slice none 0 0,.int .i64 0,.int .i64 0,.int .i64 0]) ?_ 2 _ rfl;(with_reducible repeat (first|refine kN ?_ _|refine kD ?_|refine kA ?_ _));refine blk_put (cs:=#[.int .i64 1,.int .i64 0,.slice none 0 0,.slice none 0 0,.int .i64 0,.int .i64 0,.int .i64 0]) ?_ 1 _ rfl;(with_reducible repeat (first|refine kN ?_ _|refine kD ?_|refine kA ?_ _));refine blk_put (cs:=#[.int .i64 0,.int .i64 0,.slice none 0 0,.slice none 0 0,.int .i64 0,.int .i64 0,.int .i64 0]) ?_ 0 _ rfl;(with_reducible repeat (first|refine kN ?_ _|refine kD ?_|refine kA ?_ _));exact BK122.out) Try.underlying46 rfl (by kernel_rfl)) rfl ?_
            exact ⟨_,_,by first|rfl|(simp [errW_none,errW_some] <;> rfl)|(simp [*,errW_none,errW_some] <;> rfl),by first|exact Kd.R_nil _ _ _ _ _|exact Kd.N_nil _ _ _ _ _|exact Kd.V_nil _ _ _ _ _|exact Kd.Q_nil _ _ _ _ _|exact Kd.S_nil _ _ _ _ _,by first|exact Kd.R_nil _ _ _ _ _|exact Kd.N_nil _ _ _ _ _|exact Kd.V_nil _ _ _ _ _|exact Kd.Q_nil _ _ _ _ _|exact Kd.S_nil _ _ _ _ _,by repeat (first|(with_reducible first|exact HB.out|apply bA|apply bN|apply bD|refine bS ?_ (IsS90.ge HI123.out)|refine bS ?_ GE122.out|refine bS ?_ GE124.out)|exact HB.out)⟩
           ·rw [if_neg c91] at H
            have c91b0 : decide (0 ≤ x124002_87) = false:=decide_eq_false c91
            clear c91
            replace H:=Option.bind_eq_some_iff.mp H
            obtain ⟨t203,A960,H⟩:=H
            replace H : (if t203 = 0 then (some (0,0,x125000_1,x125001_1,x125002_1,x125003_1,x125004_1)) else (some (wrap64 (1 + t203),0,([] : List (S71)),([] : List (S75)),0,0,0))) = some (r1,r2,r3,r4,r5,r6,r7):=H
            have A96:=Am A960
            clear A960
            by_cases c97 : t203 = 0
            ·rw [if_pos c97] at H
             have c97b0 : (t203 == 0) = true:=beq_iff_eq.mpr c97
             have c97b1 : (t203 != 0) = false:=bne_eq_false_iff_eq.mpr c97
             clear c97
             simp only [Option.some.injEq,Prod.mk.injEq] at H
             obtain ⟨rfl,rfl,rfl,rfl,rfl,rfl,rfl⟩:=H
             obtain ⟨HGz98,hgz98⟩:=HI123.out
             have hcz98_0:=cellS90_0 HGz98
             have hcz98_1:=cellS90_1 HGz98
             have hcz98_2:=cellS90_2 HGz98
             have hfz98_0:=kF HGz98 0
             have hfz98_1:=kF HGz98 1
             have hfz98_2:=kF HGz98 2
             clear HGz98 hgz98
             have hnb99:=NB124_122.out
             have hnc99:=NB122_124.out
             have hnb100:=NB124_123.out
             have hnc100:=NB123_124.out
             have hcz101_0 : wc.cell? ⟨gb124,0,none⟩ = some (u125000):=(kC BK124.out 0).trans rfl
             have hcz101_1 : wc.cell? ⟨gb124,1,none⟩ = some (u125001):=(kC BK124.out 1).trans rfl
             have hcz101_2 : wc.cell? ⟨gb124,2,none⟩ = some (.int .i64 x125002_1):=(kC BK124.out 2).trans rfl
             have hcz101_3 : wc.cell? ⟨gb124,3,none⟩ = some (.int .i64 x125003_1):=(kC BK124.out 3).trans rfl
             have hcz101_4 : wc.cell? ⟨gb124,4,none⟩ = some (.int .i64 x125004_1):=(kC BK124.out 4).trans rfl
             have hfz101_0:=kF BK124.out 0
             have hfz101_1:=kF BK124.out 1
             have hfz101_2:=kF BK124.out 2
             have hfz101_3:=kF BK124.out 3
             have hfz101_4:=kF BK124.out 4
             obtain ⟨Ao102,co102,eo102⟩:=Kd.R_slice HO_125000.out
             subst eo102
             obtain ⟨Ao103,co103,eo103⟩:=Kd.R_slice HO_125001.out
             subst eo103
             go_wp2_with (first|((with_reducible refine gate_callee (f:=15) rfl ?_);refine goesL_ (some 121) rfl rfl Try.func15 (by kernel_rfl) rfl #[.agg #[.slice Ao102 x125000_1.length co102,.slice Ao103 x125001_1.length co103,.int .i64 x125002_1,.int .i64 x125003_1,.int .i64 x125004_1]] rfl (by (try simp only [List.map_toArray,List.map_cons,List.map_nil]);first|done|rfl|(simp only [List.length_drop,List.length_take];rfl)) ?_;(with_reducible refine (spec_ProfileOk.calls kj87 _ _ x125000_1 _ _ x125001_1 x125002_1 x125003_1 x125004_1 t203 _ ?side1 ?side2 ?side3 ?side4 A96.out).mono ?_);(case side1 => repeat (first|exact (Kd.R_reads' HO_125000.out).2.2|(with_reducible refine Kd.C_alloc ?_ _)|(with_reducible refine Kd.C_drewN ?_ _)|(with_reducible refine Kd.C_drew ?_)));(case side2 => exact (Kd.R_reads' HO_125000.out).2.1);(case side3 => repeat (first|exact (Kd.R_reads' HO_125001.out).2.2|(with_reducible refine Kd.C_alloc ?_ _)|(with_reducible refine Kd.C_drewN ?_ _)|(with_reducible refine Kd.C_drew ?_)));(case side4 => exact (Kd.R_reads' HO_125001.out).2.1);rintro e w104 ⟨rfl,hb⟩;refine ⟨_,rfl,?_⟩;have n0_:=Am (Kd.R_below (by (with_reducible repeat (first|apply Kd.R_alloc|apply Kd.R_drewN|apply Kd.R_drew));exact HO_125000.out) hb);have n1_:=Am (Kd.R_below (by (with_reducible repeat (first|apply Kd.R_alloc|apply Kd.R_drewN|apply Kd.R_drew));exact HO_125001.out) hb);have n2_:=Am (blk_below (g:=gb122) (o:=.cells #[.int .i64 0,.int .i64 0,.slice none 0 0,.slice none 0 0,.int .i64 0,.int .i64 0,.int .i64 0] 46 (0,0)) (by (with_reducible repeat (first|refine kN ?_ _|refine kD ?_|refine kA ?_ _));exact BK122.out) hb);have n3_:=Am (blk_below (g:=gb124) (o:=.cells #[.slice Ao102 x125000_1.length co102,.slice Ao103 x125001_1.length co103,.int .i64 x125002_1,.int .i64 x125003_1,.int .i64 x125004_1] 31 (0,0)) (by (with_reducible repeat (first|refine kN ?_ _|refine kD ?_|refine kA ?_ _));exact BK124.out) hb);have n4_:=Am (IsS90.below (by repeat (first|(with_reducible first|exact HI123.out|apply IsS90.alloc|apply IsS90.drewN|apply IsS90.drew|apply IsS90.set_0|apply IsS90.set_1|apply IsS90.set_2|refine IsS90.far ?_ NB123_122.out _|refine IsS90.far ?_ NB123_124.out _)|exact HI123.out)) hb);have n5_:=Am (below_step (by repeat (first|(with_reducible first|exact HB.out|apply bA|apply bN|apply bD|refine bS ?_ (IsS90.ge HI123.out)|refine bS ?_ GE122.out|refine bS ?_ GE124.out)|exact HB.out)) hb);clear HO_125000;clear HO_125001;clear BK122;clear BK124;clear HI123;clear HB;have HO_125000:=n0_;have HO_125001:=n1_;have BK122:=n2_;have BK124:=n3_;have HI123:=n4_;have HB:=n5_;clear n0_ n1_ n2_ n3_ n4_ n5_;(try clear hb);(try clear hb2);(try clear hk);(try clear hi);have hcz105_0 : w104.cell? ⟨gb124,0,none⟩ = some (.slice Ao102 x125000_1.length co102):=(kC BK124.out 0).trans rfl;have hcz105_1 : w104.cell? ⟨gb124,1,none⟩ = some (.slice Ao103 x125001_1.length co103):=(kC BK124.out 1).trans rfl;have hcz105_2 : w104.cell? ⟨gb124,2,none⟩ = some (.int .i64 x125002_1):=(kC BK124.out 2).trans rfl;have hcz105_3 : w104.cell? ⟨gb124,3,none⟩ = some (.int .i64 x125003_1):=(kC BK124.out 3).trans rfl;have hcz105_4 : w104.cell? ⟨gb124,4,none⟩ = some (.int .i64 x125004_1):=(kC BK124.out 4).trans rfl;have hfz105_0:=kF BK124.out 0;have hfz105_1:=kF BK124.out 1;have hfz105_2:=kF BK124.out 2;have hfz105_3:=kF BK124.out 3;have hfz105_4:=kF BK124.out 4;have hnb106:=NB122_123.out;have hnc106:=NB123_122.out;have hcz107_0 : w104.cell? ⟨gb122,0,none⟩ = some (.int .i64 0):=(kC BK122.out 0).trans rfl;have hcz107_1 : w104.cell? ⟨gb122,1,none⟩ = some (.int .i64 0):=(kC BK122.out 1).trans rfl;have hcz107_2 : w104.cell? ⟨gb122,2,none⟩ = some (.slice none 0 0):=(kC BK122.out 2).trans rfl;have hcz107_3 : w104.cell? ⟨gb122,3,none⟩ = some (.slice none 0 0):=(kC BK122.out 3).trans rfl;have hcz107_4 : w104.cell? ⟨gb122,4,none⟩ = some (.int .i64 0):=(kC BK122.out 4).trans rfl;have hcz107_5 : w104.cell? ⟨gb122,5,none⟩ = some (.int .i64 0):=(kC BK122.out 5).trans rfl;have hcz107_6 : w104.cell? ⟨gb122,6,none⟩ = some (.int .i64 0):=(kC BK122.out 6).trans rfl;have hfz107_0:=kF BK122.out 0;have hfz107_1:=kF BK122.out 1;have hfz107_2:=kF BK122.out 2;have hfz107_3:=kF BK122.out 3;have hfz107_4:=kF BK122.out 4;have hfz107_5:=kF BK122.out 5;have hfz107_6:=kF BK122.out 6))
             refine bodyPost_ret (results_cell_row rfl _ _ gb122 46 #[.int .i64 0,.int .i64 0,.slice Ao102 x125000_1.length co102,.slice Ao103 x125001_1.length co103,.int .i64 x125002_1,.int .i64 x125003_1,.int .i64 x125004_1] (0,0) _ rfl (by (with_reducible repeat (first|refine kN ?_ _|refine kD ?_|refine kA ?_ _));refine blk_put (cs:=#[.int .i64 0,.int .i64 0,.slice Ao102 x125000_1.length co102,.slice Ao103 x125001_1.length co103,.int .i64 x125002_1,.int .i64 x125003_1,.int .i64 0]) ?_ 6 _ rfl;(with_reducible repeat (first|refine kN ?_ _|refine kD ?_|refine kA ?_ _));refine blk_put (cs:=#[.int .i64 0,.int .i64 0,.slice Ao102 x125000_1.length co102,.slice Ao103 x125001_1.length co103,.int .i64 x125002_1,.int .i64 0,.int .i64 0]) ?_ 5 _ rfl;(with_reducible repeat (first|refine kN ?_ _|refine kD ?_|refine kA ?_ _));refine blk_put (cs:=#[.int .i64 0,.int .i64 0,.slice Ao102 x125000_1.length co102,.slice Ao103 x125001_1.length co103,.int .i64 0,.int .i64 0,.int .i64 0]) ?_ 4 _ rfl;(with_reducible repeat (first|refine kN ?_ _|refine kD ?_|refine kA ?_ _));refine blk_put (cs:=#[.int .i64 0,.int .i64 0,.slice Ao102 x125000_1.length co102,.slice none 0 0,.int .i64 0,.int .i64 0,.int .i64 0]) ?_ 3 _ rfl;(with_reducible repeat (first|refine kN ?_ _|refine kD ?_|refine kA ?_ _));refine blk_put (cs:=#[.int .i64 0,.int .i64 0,.slice none 0 0,.slice none 0 0,.int .i64 0,.int .i64 0,.int .i64 0]) ?_ 2 _ rfl;(with_reducible repeat (first|refine kN ?_ _|refine kD ?_|refine kA ?_ _));refine blk_put (cs:=#[.int .i64 0,.int .i64 0,.slice none 0 0,.slice none 0 0,.int .i64 0,.int .i64 0,.int .i64 0]) ?_ 1 _ rfl;(with_reducible repeat (first|refine kN ?_ _|refine kD ?_|refine kA ?_ _));refine blk_put (cs:=#[.int .i64 0,.int .i64 0,.slice none 0 0,.slice none 0 0,.int .i64 0,.int .i64 0,.int .i64 0]) ?_ 0 _ rfl;(with_reducible repeat (first|refine kN ?_ _|refine kD ?_|refine kA ?_ _));exact BK122.out) Try.underlying46 rfl (by kernel_rfl)) rfl ?_
             exact ⟨_,_,by first|rfl|(simp [errW_none,errW_some] <;> rfl)|(simp [*,errW_none,errW_some] <;> rfl),by (with_reducible repeat (first|apply Kd.R_alloc|apply Kd.R_drewN|apply Kd.R_drew));exact Kd.R_mono (Kd.R_far (p:=⟨gb122,6,none⟩) (Kd.R_far (p:=⟨gb122,5,none⟩) (Kd.R_far (p:=⟨gb122,4,none⟩) (Kd.R_far (p:=⟨gb122,3,none⟩) (Kd.R_far (p:=⟨gb122,2,none⟩) (Kd.R_far (p:=⟨gb122,1,none⟩) (Kd.R_far (p:=⟨gb122,0,none⟩) (Kd.R_types HO_125000.out BK122.out (by decide)) (fun _ hk => hk.2) (.int .i64 0)) (fun _ hk => hk.2) (.int .i64 0)) (fun _ hk => hk.2) (.slice Ao102 x125000_1.length co102)) (fun _ hk => hk.2) (.slice Ao103 x125001_1.length co103)) (fun _ hk => hk.2) (.int .i64 x125002_1)) (fun _ hk => hk.2) (.int .i64 x125003_1)) (fun _ hk => hk.2) (.int .i64 x125004_1)) (fun _ hk => trivial),by (with_reducible repeat (first|apply Kd.R_alloc|apply Kd.R_drewN|apply Kd.R_drew));exact Kd.R_mono (Kd.R_far (p:=⟨gb122,6,none⟩) (Kd.R_far (p:=⟨gb122,5,none⟩) (Kd.R_far (p:=⟨gb122,4,none⟩) (Kd.R_far (p:=⟨gb122,3,none⟩) (Kd.R_far (p:=⟨gb122,2,none⟩) (Kd.R_far (p:=⟨gb122,1,none⟩) (Kd.R_far (p:=⟨gb122,0,none⟩) (Kd.R_types HO_125001.out BK122.out (by decide)) (fun _ hk => hk.2) (.int .i64 0)) (fun _ hk => hk.2) (.int .i64 0)) (fun _ hk => hk.2) (.slice Ao102 x125000_1.length co102)) (fun _ hk => hk.2) (.slice Ao103 x125001_1.length co103)) (fun _ hk => hk.2) (.int .i64 x125002_1)) (fun _ hk => hk.2) (.int .i64 x125003_1)) (fun _ hk => hk.2) (.int .i64 x125004_1)) (fun _ hk => trivial),by repeat (first|(with_reducible first|exact HB.out|apply bA|apply bN|apply bD|refine bS ?_ (IsS90.ge HI123.out)|refine bS ?_ GE122.out|refine bS ?_ GE124.out)|exact HB.out)⟩
            ·rw [if_neg c97] at H
             have c97b0 : (t203 == 0) = false:=beq_eq_false_iff_ne.mpr c97
             have c97b1 : (t203 != 0) = true:=bne_iff_ne.mpr c97
             simp only [Option.some.injEq,Prod.mk.injEq] at H
             obtain ⟨rfl,rfl,rfl,rfl,rfl,rfl,rfl⟩:=H
             obtain ⟨HGz108,hgz108⟩:=HI123.out
             have hcz108_0:=cellS90_0 HGz108
             have hcz108_1:=cellS90_1 HGz108
             have hcz108_2:=cellS90_2 HGz108
             have hfz108_0:=kF HGz108 0
             have hfz108_1:=kF HGz108 1
             have hfz108_2:=kF HGz108 2
             clear HGz108 hgz108
             have hnb109:=NB124_122.out
             have hnc109:=NB122_124.out
             have hnb110:=NB124_123.out
             have hnc110:=NB123_124.out
             have hcz111_0 : wc.cell? ⟨gb124,0,none⟩ = some (u125000):=(kC BK124.out 0).trans rfl
             have hcz111_1 : wc.cell? ⟨gb124,1,none⟩ = some (u125001):=(kC BK124.out 1).trans rfl
             have hcz111_2 : wc.cell? ⟨gb124,2,none⟩ = some (.int .i64 x125002_1):=(kC BK124.out 2).trans rfl
             have hcz111_3 : wc.cell? ⟨gb124,3,none⟩ = some (.int .i64 x125003_1):=(kC BK124.out 3).trans rfl
             have hcz111_4 : wc.cell? ⟨gb124,4,none⟩ = some (.int .i64 x125004_1):=(kC BK124.out 4).trans rfl
             have hfz111_0:=kF BK124.out 0
             have hfz111_1:=kF BK124.out 1
             have hfz111_2:=kF BK124.out 2
             have hfz111_3:=kF BK124.out 3
             have hfz111_4:=kF BK124.out 4
             obtain ⟨Ao112,co112,eo112⟩:=Kd.R_slice HO_125000.out
             subst eo112
             obtain ⟨Ao113,co113,eo113⟩:=Kd.R_slice HO_125001.out
             subst eo113
             go_wp2_with (first|((with_reducible refine gate_callee (f:=15) rfl ?_);refine goesL_ (some 121) rfl rfl Try.func15 (by kernel_rfl) rfl #[.agg #[.slice Ao112 x125000_1.length co112,.slice Ao113 x125001_1.length co113,.int .i64 x125002_1,.int .i64 x125003_1,.int .i64 x125004_1]] rfl (by (try simp only [List.map_toArray,List.map_cons,List.map_nil]);first|done|rfl|(simp only [List.length_drop,List.length_take];rfl)) ?_;(with_reducible refine (spec_ProfileOk.calls kj87 _ _ x125000_1 _ _ x125001_1 x125002_1 x125003_1 x125004_1 t203 _ ?side1 ?side2 ?side3 ?side4 A96.out).mono ?_);(case side1 => repeat (first|exact (Kd.R_reads' HO_125000.out).2.2|(with_reducible refine Kd.C_alloc ?_ _)|(with_reducible refine Kd.C_drewN ?_ _)|(with_reducible refine Kd.C_drew ?_)));(case side2 => exact (Kd.R_reads' HO_125000.out).2.1);(case side3 => repeat (first|exact (Kd.R_reads' HO_125001.out).2.2|(with_reducible refine Kd.C_alloc ?_ _)|(with_reducible refine Kd.C_drewN ?_ _)|(with_reducible refine Kd.C_drew ?_)));(case side4 => exact (Kd.R_reads' HO_125001.out).2.1);rintro e w114 ⟨rfl,hb⟩;refine ⟨_,rfl,?_⟩;have n0_:=Am (Kd.R_below (by (with_reducible repeat (first|apply Kd.R_alloc|apply Kd.R_drewN|apply Kd.R_drew));exact HO_125000.out) hb);have n1_:=Am (Kd.R_below (by (with_reducible repeat (first|apply Kd.R_alloc|apply Kd.R_drewN|apply Kd.R_drew));exact HO_125001.out) hb);have n2_:=Am (blk_below (g:=gb122) (o:=.cells #[.int .i64 0,.int .i64 0,.slice none 0 0,.slice none 0 0,.int .i64 0,.int .i64 0,.int .i64 0] 46 (0,0)) (by (with_reducible repeat (first|refine kN ?_ _|refine kD ?_|refine kA ?_ _));exact BK122.out) hb);have n3_:=Am (blk_below (g:=gb124) (o:=.cells #[.slice Ao112 x125000_1.length co112,.slice Ao113 x125001_1.length co113,.int .i64 x125002_1,.int .i64 x125003_1,.int .i64 x125004_1] 31 (0,0)) (by (with_reducible repeat (first|refine kN ?_ _|refine kD ?_|refine kA ?_ _));exact BK124.out) hb);have n4_:=Am (IsS90.below (by repeat (first|(with_reducible first|exact HI123.out|apply IsS90.alloc|apply IsS90.drewN|apply IsS90.drew|apply IsS90.set_0|apply IsS90.set_1|apply IsS90.set_2|refine IsS90.far ?_ NB123_122.out _|refine IsS90.far ?_ NB123_124.out _)|exact HI123.out)) hb);have n5_:=Am (below_step (by repeat (first|(with_reducible first|exact HB.out|apply bA|apply bN|apply bD|refine bS ?_ (IsS90.ge HI123.out)|refine bS ?_ GE122.out|refine bS ?_ GE124.out)|exact HB.out)) hb);clear HO_125000;clear HO_125001;clear BK122;clear BK124;clear HI123;clear HB;have HO_125000:=n0_;have HO_125001:=n1_;have BK122:=n2_;have BK124:=n3_;have HI123:=n4_;have HB:=n5_;clear n0_ n1_ n2_ n3_ n4_ n5_;(try clear hb);(try clear hb2);(try clear hk);(try clear hi);have hnb115:=NB122_123.out;have hnc115:=NB123_122.out;have hcz116_0 : w114.cell? ⟨gb122,0,none⟩ = some (.int .i64 0):=(kC BK122.out 0).trans rfl;have hcz116_1 : w114.cell? ⟨gb122,1,none⟩ = some (.int .i64 0):=(kC BK122.out 1).trans rfl;have hcz116_2 : w114.cell? ⟨gb122,2,none⟩ = some (.slice none 0 0):=(kC BK122.out 2).trans rfl;have hcz116_3 : w114.cell? ⟨gb122,3,none⟩ = some (.slice none 0 0):=(kC BK122.out 3).trans rfl;have hcz116_4 : w114.cell? ⟨gb122,4,none⟩ = some (.int .i64 0):=(kC BK122.out 4).trans rfl;have hcz116_5 : w114.cell? ⟨gb122,5,none⟩ = some (.int .i64 0):=(kC BK122.out 5).trans rfl;have hcz116_6 : w114.cell? ⟨gb122,6,none⟩ = some (.int .i64 0):=(kC BK122.out 6).trans rfl;have hfz116_0:=kF BK122.out 0;have hfz116_1:=kF BK122.out 1;have hfz116_2:=kF BK122.out 2;have hfz116_3:=kF BK122.out 3;have hfz116_4:=kF BK122.out 4;have hfz116_5:=kF BK122.out 5;have hfz116_6:=kF BK122.out 6))
             refine bodyPost_ret (results_cell_row rfl _ _ gb122 46 #[.int .i64 (wrap64 (1 + t203)),.int .i64 0,.slice none 0 0,.slice none 0 0,.int .i64 0,.int .i64 0,.int .i64 0] (0,0) _ rfl (by (with_reducible repeat (first|refine kN ?_ _|refine kD ?_|refine kA ?_ _));refine blk_put (cs:=#[.int .i64 (wrap64 (1 + t203)),.int .i64 0,.slice none 0 0,.slice none 0 0,.int .i64 0,.int .i64 0,.int .i64 0]) ?_ 6 _ rfl;(with_reducible repeat (first|refine kN ?_ _|refine kD ?_|refine kA ?_ _));refine blk_put (cs:=#[.int .i64 (wrap64 (1 + t203)),.int .i64 0,.slice none 0 0,.slice none 0 0,.int .i64 0,.int .i64 0,.int .i64 0]) ?_ 5 _ rfl;(with_reducible repeat (first|refine kN ?_ _|refine kD ?_|refine kA ?_ _));refine blk_put (cs:=#[.int .i64 (wrap64 (1 + t203)),.int .i64 0,.slice none 0 0,.slice none 0 0,.int .i64 0,.int .i64 0,.int .i64 0]) ?_ 4 _ rfl;(with_reducible repeat (first|refine kN ?_ _|refine kD ?_|refine kA ?_ _));refine blk_put (cs:=#[.int .i64 (wrap64 (1 + t203)),.int .i64 0,.slice none 0 0,.slice none 0 0,.int .i64 0,.int .i64 0,.int .i64 0]) ?_ 3 _ rfl;(with_reducible repeat (first|refine kN ?_ _|refine kD ?_|refine kA ?_ _));refine blk_put (cs:=#[.int .i64 (wrap64 (1 + t203)),.int .i64 0,.slice none 0 0,.slice none 0 0,.int .i64 0,.int .i64 0,.int .i64 0]) ?_ 2 _ rfl;(with_reducible repeat (first|refine kN ?_ _|refine kD ?_|refine kA ?_ _));refine blk_put (cs:=#[.int .i64 (wrap64 (1 + t203)),.int .i64 0,.slice none 0 0,.slice none 0 0,.int .i64 0,.int .i64 0,.int .i64 0]) ?_ 1 _ rfl;(with_reducible repeat (first|refine kN ?_ _|refine kD ?_|refine kA ?_ _));refine blk_put (cs:=#[.int .i64 0,.int .i64 0,.slice none 0 0,.slice none 0 0,.int .i64 0,.int .i64 0,.int .i64 0]) ?_ 0 _ rfl;(with_reducible repeat (first|refine kN ?_ _|refine kD ?_|refine kA ?_ _));exact BK122.out) Try.underlying46 rfl (by kernel_rfl)) rfl ?_
             exact ⟨_,_,by first|rfl|(simp [errW_none,errW_some] <;> rfl)|(simp [*,errW_none,errW_some] <;> rfl),by first|exact Kd.R_nil _ _ _ _ _|exact Kd.N_nil _ _ _ _ _|exact Kd.V_nil _ _ _ _ _|exact Kd.Q_nil _ _ _ _ _|exact Kd.S_nil _ _ _ _ _,by first|exact Kd.R_nil _ _ _ _ _|exact Kd.N_nil _ _ _ _ _|exact Kd.V_nil _ _ _ _ _|exact Kd.Q_nil _ _ _ _ _|exact Kd.S_nil _ _ _ _ _,by repeat (first|(with_reducible first|exact HB.out|apply bA|apply bN|apply bD|refine bS ?_ (IsS90.ge HI123.out)|refine bS ?_ GE122.out|refine bS ?_ GE124.out)|exact HB.out)⟩

end Go.Proofs.Ytgakkndbcilclaa.PC
