/- The words and the forms of a text; one form tried by the program. Condition: the text is no longer than the program takes. -/
import Derived.Test.YtanjbdgmnecacaaDoorPTx0
import Derived.Test.YtanjbdgmnecacaaDoorPTx10
import Derived.Test.YtanjbdgmnecacaaDoorPTx20
import Derived.Test.YtanjbdgmnecacaaDoorPrLs
set_option linter.unusedVariables false
set_option linter.unusedSimpArgs false
namespace Go.Proofs.YtanjbdgmnecacaaDoor.Pure
open Go.RowKit Go.Proofs.YtanjbdgmnecacaaDoorW.PrintWords Go.Proofs.YtanjbdgmnecacaaDoorW.PrintLast Go.Proofs.YtanjbdgmnecacaaDoor.PT Go.Proofs.YtanjbdgmnecacaaDoor.M
section
abbrev sT : ByteArray := ⟨#[116,114,97,99,107,32]⟩
abbrev sL : ByteArray := ⟨#[108,105,109,105,116,32]⟩
abbrev sR : ByteArray := ⟨#[116,114,97,105,110,32]⟩
abbrev fT : ByteArray := ⟨#[116,114,97,99,107,32,35,32,98,114,97,107,101,32,35,10]⟩
abbrev fL : ByteArray := ⟨#[108,105,109,105,116,32,35,32,35,32,35,10]⟩
abbrev fR : ByteArray := ⟨#[116,114,97,105,110,32,35,32,101,110,100,32,35,32,100,101,108,97,121,32,35,10]⟩
variable {t : ByteArray} {p : Int}
theorem w_T (h : (mst t sT 6 0 p).2 = true) : mst t sL 6 0 p = (p, false) ∧ mst t sR 6 0 p = (p + 3, false) := by
  have hT := mst_true t sT 6 0 p h
  constructor
  · have := mst_part t sL 0 6 0 p (by omega) (fun j hj => by omega) (fun z => by
      have h1 := (hT 0 (by omega)).2
      rw [z.2] at h1
      exact absurd h1 (by decide))
    simpa using this
  · exact mst_part t sR 3 6 0 p (by omega) (fun j hj => by
      have h1 := hT j (by omega)
      exact ⟨h1.1, h1.2.trans ((show ∀ j : Nat, j < 3 → bt sT (0 + (j : Int)) = bt sR (0 + (j : Int)) from by decide) j hj)⟩) (fun z => by
      have h1 := (hT 3 (by omega)).2
      rw [z.2] at h1
      exact absurd h1 (by decide))
theorem w_R (h : (mst t sR 6 0 p).2 = true) : mst t sL 6 0 p = (p, false) ∧ mst t sT 6 0 p = (p + 3, false) := by
  have hT := mst_true t sR 6 0 p h
  constructor
  · have := mst_part t sL 0 6 0 p (by omega) (fun j hj => by omega) (fun z => by
      have h1 := (hT 0 (by omega)).2
      rw [z.2] at h1
      exact absurd h1 (by decide))
    simpa using this
  · exact mst_part t sT 3 6 0 p (by omega) (fun j hj => by
      have h1 := hT j (by omega)
      exact ⟨h1.1, h1.2.trans ((show ∀ j : Nat, j < 3 → bt sR (0 + (j : Int)) = bt sT (0 + (j : Int)) from by decide) j hj)⟩) (fun z => by
      have h1 := (hT 3 (by omega)).2
      rw [z.2] at h1
      exact absurd h1 (by decide))
theorem w_L (h : (mst t sL 6 0 p).2 = true) : mst t sT 6 0 p = (p, false) ∧ mst t sR 6 0 p = (p, false) := by
  have hT := mst_true t sL 6 0 p h
  constructor
  · have := mst_part t sT 0 6 0 p (by omega) (fun j hj => by omega) (fun z => by
      have h1 := (hT 0 (by omega)).2
      rw [z.2] at h1
      exact absurd h1 (by decide))
    simpa using this
  · have := mst_part t sR 0 6 0 p (by omega) (fun j hj => by omega) (fun z => by
      have h1 := (hT 0 (by omega)).2
      rw [z.2] at h1
      exact absurd h1 (by decide))
    simpa using this
theorem f_T : mtc t fT 16 0 p [] = if (mst t sT 6 0 p).2 = true then mtc t fT 10 6 (mst t sT 6 0 p).1 [] else ([], (mst t sT 6 0 p).1, false) := by
  have := mtc_word (t := t) (F := fT) (S := sT) 10 6 0 0 p [] (by decide)
  exact this
theorem f_L : mtc t fL 12 0 p [] = if (mst t sL 6 0 p).2 = true then mtc t fL 6 6 (mst t sL 6 0 p).1 [] else ([], (mst t sL 6 0 p).1, false) := by
  have := mtc_word (t := t) (F := fL) (S := sL) 6 6 0 0 p [] (by decide)
  exact this
theorem f_R : mtc t fR 22 0 p [] = if (mst t sR 6 0 p).2 = true then mtc t fR 16 6 (mst t sR 6 0 p).1 [] else ([], (mst t sR 6 0 p).1, false) := by
  have := mtc_word (t := t) (F := fR) (S := sR) 16 6 0 0 p [] (by decide)
  exact this
variable {ps : List S49} {zs : List S56} {a b c : Int} {r : Int × Int × (List S49) × (List S56) × Int × Int × Int}
/-- A form that does not stand there. -/
theorem i_skip {forms : List ByteArray} {j : Nat} {far : Int} {F : ByteArray} (ht : t.size ≤ 3000) (h0 : 0 ≤ p) (h1 : p ≤ t.size) (hj : j < forms.length) (hl : forms.length ≤ 10) (hF : rdOf ByteArray.empty forms j = F) (hs : F.size ≤ 100)
    (hx : (mtc t F F.size 0 p []).2.2 = false) (h : Ev (fun k => impl_ReadProfile.l1 k t p (mx far (mtc t F F.size 0 p []).2.1) false forms forms.length ((j + 1 : Nat) : Int) ps zs a b c) r) :
    Ev (fun k => impl_ReadProfile.l1 k t p far false forms forms.length j ps zs a b c) r := by
  subst hF
  refine Ev.step (fun k => by rw [impl_ReadProfile.l1]) (pos_ (by omega) (pos_ (by omega) (pos_ (by omega) (Ev.bind (ev_match ht hs h0 h1) ?_))))
  refine neg_ (by rw [hx]; decide) ?_
  rw [w64 (a := (j : Int) + 1) (by omega) (by omega)]
  exact h
theorem i_end {forms : List ByteArray} {far : Int} : Ev (fun k => impl_ReadProfile.l1 k t p far false forms forms.length forms.length ps zs a b c) (1, far, [], [], 0, 0, 0) := by
  refine Ev.step (fun k => by rw [impl_ReadProfile.l1]) (neg_ (by omega) (neg_ (by decide) (now_ rfl)))
theorem i_T {forms : List ByteArray} {j : Nat} {far q u v : Int} (ht : t.size ≤ 3000) (h0 : 0 ≤ p) (h1 : p ≤ t.size) (hj : j < forms.length) (hF : rdOf ByteArray.empty forms j = fT) (hps : ps.length ≤ 3000)
    (hx : mtc t fT 16 0 p [] = ([u, v], q, true)) (h : Ev (fun k => impl_ReadProfile.l0 k t (mx far q) (ps ++ [⟨u, v⟩]) zs a b c) r) :
    Ev (fun k => impl_ReadProfile.l1 k t p far false forms forms.length j ps zs a b c) r := by
  refine Ev.step (fun k => by rw [impl_ReadProfile.l1]) (pos_ (by omega) (pos_ (by omega) (pos_ (by omega) ?_)))
  rw [hF]
  have hm := ev_match (F := fT) ht (by decide) h0 h1
  rw [show fT.size = 16 from rfl, hx] at hm
  refine Ev.bind hm (pos_ rfl (pos_ (by decide) (pos_ (by decide) (neg_ (by decide +kernel) (pos_ (by decide) (pos_ (by decide) ?_))))))
  exact pos_ (by simp) (pos_ (by simp) (pos_ (by omega) h))
theorem i_L {forms : List ByteArray} {j : Nat} {far q u v w : Int} (ht : t.size ≤ 3000) (h0 : 0 ≤ p) (h1 : p ≤ t.size) (hj : j < forms.length) (hF : rdOf ByteArray.empty forms j = fL) (hzs : zs.length ≤ 3000)
    (hx : mtc t fL 12 0 p [] = ([u, v, w], q, true)) (h : Ev (fun k => impl_ReadProfile.l0 k t (mx far q) ps (zs ++ [⟨u, v, w⟩]) a b c) r) :
    Ev (fun k => impl_ReadProfile.l1 k t p far false forms forms.length j ps zs a b c) r := by
  refine Ev.step (fun k => by rw [impl_ReadProfile.l1]) (pos_ (by omega) (pos_ (by omega) (pos_ (by omega) ?_)))
  rw [hF]
  have hm := ev_match (F := fL) ht (by decide) h0 h1
  rw [show fL.size = 12 from rfl, hx] at hm
  refine Ev.bind hm (pos_ rfl (pos_ (by decide) (pos_ (by decide) (pos_ (by decide +kernel) ?_))))
  exact pos_ (by simp) (pos_ (by simp) (pos_ (by simp) (pos_ (by omega) h)))
/-- What a whole text comes to. -/
def told (ps : List S49) (zs : List S56) (a b c : Int) : Int × Int × (List S49) × (List S56) × Int × Int × Int :=
  if pokV ps zs a b c = 0 then (0, 0, ps, zs, a, b, c) else (wrap64 (1 + pokV ps zs a b c), 0, [], [], 0, 0, 0)
theorem i_R {forms : List ByteArray} {j : Nat} {far q u v w : Int} (ht : t.size ≤ 3000) (h0 : 0 ≤ p) (h1 : p ≤ t.size) (hj : j < forms.length) (hF : rdOf ByteArray.empty forms j = fR)
    (hx : mtc t fR 22 0 p [] = ([u, v, w], q, true)) :
    Ev (fun k => impl_ReadProfile.l1 k t p far false forms forms.length j ps zs a b c) (if q < t.size then (1, q, [], [], 0, 0, 0) else told ps zs u v w) := by
  refine Ev.step (fun k => by rw [impl_ReadProfile.l1]) (pos_ (by omega) (pos_ (by omega) (pos_ (by omega) ?_)))
  rw [hF]
  have hm := ev_match (F := fR) ht (by decide) h0 h1
  rw [show fR.size = 22 from rfl, hx] at hm
  refine Ev.bind hm (pos_ rfl (pos_ (by decide) (pos_ (by decide) (neg_ (by decide +kernel) (pos_ (by decide) (neg_ (by decide) ?_))))))
  refine pos_ (by simp) (pos_ (by simp) (pos_ (by simp) ?_))
  by_cases c1 : q < t.size
  · exact pos_ c1 (now_ (if_pos c1).symm)
  · refine neg_ c1 (cast_ (if_neg c1).symm (bindc (show impl_ProfileOk.f ps zs u v w = some (pokV ps zs u v w) from rfl) ?_))
    unfold told
    by_cases c2 : pokV ps zs u v w = 0
    · exact pos_ c2 (now_ (if_pos c2).symm)
    · exact neg_ c2 (now_ (if_neg c2).symm)
end
end Go.Proofs.YtanjbdgmnecacaaDoor.Pure
