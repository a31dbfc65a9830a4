/- Reading a whole text: both codes come to one result. Condition: the text is no longer than the program takes. -/
import Derived.Test.YtanjbdgmnecacaaDoorPTx0
import Derived.Test.YtanjbdgmnecacaaDoorPTx20
import Derived.Test.YtanjbdgmnecacaaDoorPTx23
import Derived.Test.YtanjbdgmnecacaaDoorPTx26
import Derived.Test.YtanjbdgmnecacaaDoorPrLq
set_option linter.unusedVariables false
set_option linter.unusedSimpArgs false
namespace Go.Proofs.YtanjbdgmnecacaaDoor.Pure
open Go.RowKit Go.Proofs.YtanjbdgmnecacaaDoorW.PrintWords Go.Proofs.YtanjbdgmnecacaaDoorW.PrintLast Go.Proofs.YtanjbdgmnecacaaDoor.PT Go.Proofs.YtanjbdgmnecacaaDoor.M
section
variable {t : ByteArray}
def lstOf (ps : List S49) (zs : List S56) : List ByteArray := if zs.length > 0 then [sL, sR] else if ps.length > 0 then [sT, sL, sR] else [sT]
def frmOf (ps : List S49) (zs : List S56) : List ByteArray := if zs.length > 0 then [fL, fR] else if ps.length > 0 then [fT, fL, fR] else [fT]
/-- The program's forms at a line's beginning. -/
theorem i_line {p : Int} {ps : List S49} {zs : List S56} {a b c : Int} {R : Int × Int × (List S49) × (List S56) × Int × Int × Int}
    (h : Ev (fun k => impl_ReadProfile.l1 k t p p false (frmOf ps zs) (frmOf ps zs).length (0 : Nat) ps zs a b c) R) : Ev (fun k => impl_ReadProfile.l0 k t p ps zs a b c) R := by
  unfold frmOf at h
  refine Ev.step (fun k => by rw [impl_ReadProfile.l0]) (bindc rfl ?_)
  by_cases c1 : (zs.length : Int) > 0
  · rw [if_pos (by omega)] at h
    exact pos_ c1 (Ev.step (fun k => by rw [impl_ReadProfile.j1]; rfl) h)
  · rw [if_neg (by omega)] at h
    refine neg_ c1 ?_
    by_cases c2 : (ps.length : Int) > 0
    · rw [if_pos (by omega)] at h
      exact pos_ c2 (bindc rfl (pos_ (by decide) (Ev.step (fun k => by rw [impl_ReadProfile.j1]; rfl) h)))
    · rw [if_neg (by omega)] at h
      exact neg_ c2 (Ev.step (fun k => by rw [impl_ReadProfile.j1]; rfl) h)
/-- What a beginning of a line comes to, by both codes. -/
def Both (t : ByteArray) (p : Int) (ps : List S49) (zs : List S56) : Prop :=
  ∃ r, Ev (fun k => spec_ReadProfile.l0 k t (lstOf ps zs) false t p (-1) ps zs 0 0 0) r ∧ Ev (fun k => impl_ReadProfile.l0 k t p ps zs 0 0 0) r ∧ r.2.2.1.length ≤ 3000 ∧ r.2.2.2.1.length ≤ 3000
theorem mx_r {x y : Int} (h : x ≤ y) : mx x y = y := by unfold mx; split <;> omega
theorem mx_l {x y : Int} (h : y ≤ x) : mx x y = x := by unfold mx; split <;> omega
theorem skip_T {p : Int} (h : (mst t sT 6 0 p).2 = false) : mtc t fT 16 0 p [] = ([], (mst t sT 6 0 p).1, false) := by rw [f_T, h]; rfl
theorem skip_L {p : Int} (h : (mst t sL 6 0 p).2 = false) : mtc t fL 12 0 p [] = ([], (mst t sL 6 0 p).1, false) := by rw [f_L, h]; rfl
theorem skip_R {p : Int} (h : (mst t sR 6 0 p).2 = false) : mtc t fR 22 0 p [] = ([], (mst t sR 6 0 p).1, false) := by rw [f_R, h]; rfl
theorem up_ {x p f : Int} : (if x - p > f then x - p else f) = max (x - p) f := by omega
/-- One word in question: none stands there. -/
theorem n1 {p : Int} {ps : List S49} {zs : List S56} (ht : t.size ≤ 3000) (h0 : 0 ≤ p) (h1 : p ≤ t.size) (hz : ¬ zs.length > 0) (hp : ¬ ps.length > 0) (hT : (mst t sT 6 0 p).2 = false) : Both t p ps zs := by
  have l1 := mst_le t sT 6 0 p h1
  refine ⟨(1, (mst t sT 6 0 p).1, [], [], 0, 0, 0), ?_, ?_, by simp, by simp⟩
  · unfold lstOf
    rw [if_neg hz, if_neg hp]
    refine s_none (by omega) ?_
    refine s_miss (S := sT) (j := 0) ht (by decide) h0 h1 (by decide) (by decide) rfl hT ?_
    have e := s_end (t := t) (p := p) (lst := [sT]) (far := (mst t sT 6 0 p).1 - p) h0 (by omega) (by omega) (by omega)
    rw [show p + ((mst t sT 6 0 p).1 - p) = (mst t sT 6 0 p).1 by omega] at e
    rw [up_, show max ((mst t sT sT.size 0 p).1 - p) 0 = (mst t sT 6 0 p).1 - p from by show max ((mst t sT 6 0 p).1 - p) 0 = _; omega]
    exact e
  · refine i_line ?_
    unfold frmOf
    rw [if_neg hz, if_neg hp]
    refine i_skip (F := fT) (j := 0) ht h0 h1 (by decide) (by decide) rfl (by decide) (by rw [show fT.size = 16 from rfl, skip_T hT]) ?_
    rw [show fT.size = 16 from rfl, skip_T hT]
    simp only
    rw [mx_r (by omega)]
    exact i_end
/-- Two words in question: none stands there. -/
theorem n2 {p : Int} {ps : List S49} {zs : List S56} (ht : t.size ≤ 3000) (h0 : 0 ≤ p) (h1 : p ≤ t.size) (hz : zs.length > 0) (hL : (mst t sL 6 0 p).2 = false) (hR : (mst t sR 6 0 p).2 = false) : Both t p ps zs := by
  have l1 := mst_le t sL 6 0 p h1
  have l2 := mst_le t sR 6 0 p h1
  refine ⟨(1, max (mst t sL 6 0 p).1 (mst t sR 6 0 p).1, [], [], 0, 0, 0), ?_, ?_, by simp, by simp⟩
  · unfold lstOf
    rw [if_pos hz]
    refine s_none (by omega) ?_
    refine s_miss (S := sL) (j := 0) ht (by decide) h0 h1 (by decide) (by decide) rfl hL ?_
    refine s_miss (S := sR) (j := 1) ht (by decide) h0 h1 (by decide) (by decide) rfl hR ?_
    have e := s_end (t := t) (p := p) (lst := [sL, sR]) (far := max (mst t sL 6 0 p).1 (mst t sR 6 0 p).1 - p) h0 (by omega) (by omega) (by omega)
    rw [show p + (max (mst t sL 6 0 p).1 (mst t sR 6 0 p).1 - p) = max (mst t sL 6 0 p).1 (mst t sR 6 0 p).1 by omega] at e
    rw [up_, up_, show max ((mst t sR sR.size 0 p).1 - p) (max ((mst t sL sL.size 0 p).1 - p) 0) = max (mst t sL 6 0 p).1 (mst t sR 6 0 p).1 - p from by show max ((mst t sR 6 0 p).1 - p) (max ((mst t sL 6 0 p).1 - p) 0) = _; omega]
    exact e
  · refine i_line ?_
    unfold frmOf
    rw [if_pos hz]
    refine i_skip (F := fL) (j := 0) ht h0 h1 (by decide) (by decide) rfl (by decide) (by rw [show fL.size = 12 from rfl, skip_L hL]) ?_
    rw [show fL.size = 12 from rfl, skip_L hL]
    refine i_skip (F := fR) (j := 1) ht h0 h1 (by decide) (by decide) rfl (by decide) (by rw [show fR.size = 22 from rfl, skip_R hR]) ?_
    rw [show fR.size = 22 from rfl, skip_R hR]
    simp only
    rw [show mx (mx p (mst t sL 6 0 p).1) (mst t sR 6 0 p).1 = max (mst t sL 6 0 p).1 (mst t sR 6 0 p).1 from by unfold mx; split <;> split <;> omega]
    exact i_end
/-- Three words in question: none stands there. -/
theorem n3 {p : Int} {ps : List S49} {zs : List S56} (ht : t.size ≤ 3000) (h0 : 0 ≤ p) (h1 : p ≤ t.size) (hz : ¬ zs.length > 0) (hp : ps.length > 0) (hT : (mst t sT 6 0 p).2 = false) (hL : (mst t sL 6 0 p).2 = false) (hR : (mst t sR 6 0 p).2 = false) : Both t p ps zs := by
  have l0 := mst_le t sT 6 0 p h1
  have l1 := mst_le t sL 6 0 p h1
  have l2 := mst_le t sR 6 0 p h1
  refine ⟨(1, max (mst t sT 6 0 p).1 (max (mst t sL 6 0 p).1 (mst t sR 6 0 p).1), [], [], 0, 0, 0), ?_, ?_, by simp, by simp⟩
  · unfold lstOf
    rw [if_neg hz, if_pos hp]
    refine s_none (by omega) ?_
    refine s_miss (S := sT) (j := 0) ht (by decide) h0 h1 (by decide) (by decide) rfl hT ?_
    refine s_miss (S := sL) (j := 1) ht (by decide) h0 h1 (by decide) (by decide) rfl hL ?_
    refine s_miss (S := sR) (j := 2) ht (by decide) h0 h1 (by decide) (by decide) rfl hR ?_
    have e := s_end (t := t) (p := p) (lst := [sT, sL, sR]) (far := max (mst t sT 6 0 p).1 (max (mst t sL 6 0 p).1 (mst t sR 6 0 p).1) - p) h0 (by omega) (by omega) (by omega)
    rw [show p + (max (mst t sT 6 0 p).1 (max (mst t sL 6 0 p).1 (mst t sR 6 0 p).1) - p) = max (mst t sT 6 0 p).1 (max (mst t sL 6 0 p).1 (mst t sR 6 0 p).1) by omega] at e
    rw [up_, up_, up_, show max ((mst t sR sR.size 0 p).1 - p) (max ((mst t sL sL.size 0 p).1 - p) (max ((mst t sT sT.size 0 p).1 - p) 0)) = max (mst t sT 6 0 p).1 (max (mst t sL 6 0 p).1 (mst t sR 6 0 p).1) - p from by show max ((mst t sR 6 0 p).1 - p) (max ((mst t sL 6 0 p).1 - p) (max ((mst t sT 6 0 p).1 - p) 0)) = _; omega]
    exact e
  · refine i_line ?_
    unfold frmOf
    rw [if_neg hz, if_pos hp]
    refine i_skip (F := fT) (j := 0) ht h0 h1 (by decide) (by decide) rfl (by decide) (by rw [show fT.size = 16 from rfl, skip_T hT]) ?_
    rw [show fT.size = 16 from rfl, skip_T hT]
    refine i_skip (F := fL) (j := 1) ht h0 h1 (by decide) (by decide) rfl (by decide) (by rw [show fL.size = 12 from rfl, skip_L hL]) ?_
    rw [show fL.size = 12 from rfl, skip_L hL]
    refine i_skip (F := fR) (j := 2) ht h0 h1 (by decide) (by decide) rfl (by decide) (by rw [show fR.size = 22 from rfl, skip_R hR]) ?_
    rw [show fR.size = 22 from rfl, skip_R hR]
    simp only
    rw [show mx (mx (mx p (mst t sT 6 0 p).1) (mst t sL 6 0 p).1) (mst t sR 6 0 p).1 = max (mst t sT 6 0 p).1 (max (mst t sL 6 0 p).1 (mst t sR 6 0 p).1) from by unfold mx; split <;> split <;> split <;> omega]
    exact i_end
/-- The word 'track' stands where it may. -/
theorem h_T {p : Int} {ps : List S49} {zs : List S56} (ht : t.size ≤ 3000) (h0 : 0 ≤ p) (h1 : p ≤ t.size) (hps : ps.length ≤ 3000) (hz : ¬ zs.length > 0) (hT : (mst t sT 6 0 p).2 = true)
    (ih : ∀ q u v, p + 6 ≤ q → q ≤ t.size → Both t q (ps ++ [⟨u, v⟩]) zs) : Both t p ps zs := by
  obtain ⟨wL, wR⟩ := w_T hT
  have hw : Ev (fun k => spec_l5R_word.l0 k 0 (lstOf ps zs) (lstOf ps zs).length 0 t p (-1)) (sT, t, p + 6, -1) := by
    unfold lstOf
    rw [if_neg hz]
    by_cases c : ps.length > 0
    · rw [if_pos c]; exact s_hit (S := sT) (lst := [sT, sL, sR]) (far := 0) (j := 0) ht (by decide) h0 h1 (by decide) rfl hT
    · rw [if_neg c]; exact s_hit (S := sT) (lst := [sT]) (far := 0) (j := 0) ht (by decide) h0 h1 (by decide) rfl hT
  rcases s_T (ps := ps) (zs := zs) (a := 0) (b := 0) (c := 0) ht h0 h1 hps hw hT with ⟨u, v, q, hx, q0, q1, hg⟩ | ⟨ns, f, hx, f0, f1, hg⟩
  · obtain ⟨r, r1, r2, r3, r4⟩ := ih q u v q0 q1
    refine ⟨r, hg r ?_, i_line ?_, r3, r4⟩
    · have : lstOf (ps ++ [⟨u, v⟩]) zs = [sT, sL, sR] := by unfold lstOf; rw [if_neg hz, if_pos (by simp)]
      rw [this] at r1; exact r1
    · have hj : 0 < (frmOf ps zs).length := by unfold frmOf; rw [if_neg hz]; split <;> decide
      have hF : rdOf ByteArray.empty (frmOf ps zs) (0 : Nat) = fT := by unfold frmOf; rw [if_neg hz]; split <;> rfl
      refine i_T (j := 0) ht h0 h1 hj hF hps hx ?_
      rw [mx_r (by omega)]; exact r2
  · refine ⟨(1, f, [], [], 0, 0, 0), hg, i_line ?_, by simp, by simp⟩
    unfold frmOf
    rw [if_neg hz]
    by_cases c : ps.length > 0
    · rw [if_pos c]
      refine i_skip (F := fT) (j := 0) ht h0 h1 (by decide) (by decide) rfl (by decide) (by rw [show fT.size = 16 from rfl, hx]) ?_
      rw [show fT.size = 16 from rfl, hx]
      refine i_skip (F := fL) (j := 1) ht h0 h1 (by decide) (by decide) rfl (by decide) (by rw [show fL.size = 12 from rfl, skip_L (by rw [wL])]) ?_
      rw [show fL.size = 12 from rfl, skip_L (by rw [wL]), wL]
      refine i_skip (F := fR) (j := 2) ht h0 h1 (by decide) (by decide) rfl (by decide) (by rw [show fR.size = 22 from rfl, skip_R (by rw [wR])]) ?_
      rw [show fR.size = 22 from rfl, skip_R (by rw [wR]), wR]
      simp only
      rw [mx_r (x := p) (y := f) (by omega), mx_l (x := f) (y := p) (by omega), mx_l (x := f) (y := p + 3) (by omega)]
      exact i_end
    · rw [if_neg c]
      refine i_skip (F := fT) (j := 0) ht h0 h1 (by decide) (by decide) rfl (by decide) (by rw [show fT.size = 16 from rfl, hx]) ?_
      rw [show fT.size = 16 from rfl, hx]
      simp only
      rw [mx_r (x := p) (y := f) (by omega)]
      exact i_end
/-- The word 'limit' stands where it may. -/
theorem h_L {p : Int} {ps : List S49} {zs : List S56} (ht : t.size ≤ 3000) (h0 : 0 ≤ p) (h1 : p ≤ t.size) (hzs : zs.length ≤ 3000) (hz : zs.length > 0 ∨ ps.length > 0) (hL : (mst t sL 6 0 p).2 = true)
    (ih : ∀ q u v w, p + 6 ≤ q → q ≤ t.size → Both t q ps (zs ++ [⟨u, v, w⟩])) : Both t p ps zs := by
  obtain ⟨wT, wR⟩ := w_L hL
  have hw : Ev (fun k => spec_l5R_word.l0 k 0 (lstOf ps zs) (lstOf ps zs).length 0 t p (-1)) (sL, t, p + 6, -1) := by
    unfold lstOf
    by_cases c : zs.length > 0
    · rw [if_pos c]; exact s_hit (S := sL) (lst := [sL, sR]) (far := 0) (j := 0) ht (by decide) h0 h1 (by decide) rfl hL
    · rw [if_neg c, if_pos (by omega)]
      refine s_miss (S := sT) (lst := [sT, sL, sR]) (j := 0) ht (by decide) h0 h1 (by decide) (by decide) rfl (by show (mst t sT 6 0 p).2 = false; rw [wT]) ?_
      exact s_hit (S := sL) (lst := [sT, sL, sR]) (j := 1) ht (by decide) h0 h1 (by decide) rfl hL
  rcases s_L (ps := ps) (zs := zs) (a := 0) (b := 0) (c := 0) ht h0 h1 hzs hw hL with ⟨u, v, w, q, hx, q0, q1, hg⟩ | ⟨ns, f, hx, f0, f1, hg⟩
  · obtain ⟨r, r1, r2, r3, r4⟩ := ih q u v w q0 q1
    refine ⟨r, hg r ?_, i_line ?_, r3, r4⟩
    · have : lstOf ps (zs ++ [⟨u, v, w⟩]) = [sL, sR] := by unfold lstOf; rw [if_pos (by simp)]
      rw [this] at r1; exact r1
    · unfold frmOf
      by_cases c : zs.length > 0
      · rw [if_pos c]
        refine i_L (forms := [fL, fR]) (j := 0) ht h0 h1 (by decide) rfl hzs hx ?_
        rw [mx_r (by omega)]; exact r2
      · rw [if_neg c, if_pos (by omega)]
        refine i_skip (F := fT) (j := 0) ht h0 h1 (by decide) (by decide) rfl (by decide) (by rw [show fT.size = 16 from rfl, skip_T (by rw [wT])]) ?_
        rw [show fT.size = 16 from rfl, skip_T (by rw [wT]), wT]
        refine i_L (forms := [fT, fL, fR]) (j := 1) ht h0 h1 (by decide) rfl hzs hx ?_
        simp only
        rw [mx_r (x := p) (y := p) (by omega), mx_r (by omega)]; exact r2
  · refine ⟨(1, f, [], [], 0, 0, 0), hg, i_line ?_, by simp, by simp⟩
    unfold frmOf
    by_cases c : zs.length > 0
    · rw [if_pos c]
      refine i_skip (F := fL) (j := 0) ht h0 h1 (by decide) (by decide) rfl (by decide) (by rw [show fL.size = 12 from rfl, hx]) ?_
      rw [show fL.size = 12 from rfl, hx]
      refine i_skip (F := fR) (j := 1) ht h0 h1 (by decide) (by decide) rfl (by decide) (by rw [show fR.size = 22 from rfl, skip_R (by rw [wR])]) ?_
      rw [show fR.size = 22 from rfl, skip_R (by rw [wR]), wR]
      simp only
      rw [mx_r (x := p) (y := f) (by omega), mx_l (x := f) (y := p) (by omega)]
      exact i_end
    · rw [if_neg c, if_pos (by omega)]
      refine i_skip (F := fT) (j := 0) ht h0 h1 (by decide) (by decide) rfl (by decide) (by rw [show fT.size = 16 from rfl, skip_T (by rw [wT])]) ?_
      rw [show fT.size = 16 from rfl, skip_T (by rw [wT]), wT]
      refine i_skip (F := fL) (j := 1) ht h0 h1 (by decide) (by decide) rfl (by decide) (by rw [show fL.size = 12 from rfl, hx]) ?_
      rw [show fL.size = 12 from rfl, hx]
      refine i_skip (F := fR) (j := 2) ht h0 h1 (by decide) (by decide) rfl (by decide) (by rw [show fR.size = 22 from rfl, skip_R (by rw [wR])]) ?_
      rw [show fR.size = 22 from rfl, skip_R (by rw [wR]), wR]
      simp only
      rw [mx_r (x := p) (y := p) (by omega), mx_r (x := p) (y := f) (by omega), mx_l (x := f) (y := p) (by omega)]
      exact i_end
/-- The word 'train' stands where it may. -/
theorem h_R {p : Int} {ps : List S49} {zs : List S56} (ht : t.size ≤ 3000) (h0 : 0 ≤ p) (h1 : p ≤ t.size) (hzs : zs.length ≤ 3000) (hps : ps.length ≤ 3000) (hz : zs.length > 0 ∨ ps.length > 0) (hR : (mst t sR 6 0 p).2 = true) : Both t p ps zs := by
  obtain ⟨wL, wT⟩ := w_R hR
  have hw : Ev (fun k => spec_l5R_word.l0 k 0 (lstOf ps zs) (lstOf ps zs).length 0 t p (-1)) (sR, t, p + 6, -1) := by
    unfold lstOf
    by_cases c : zs.length > 0
    · rw [if_pos c]
      refine s_miss (S := sL) (lst := [sL, sR]) (j := 0) ht (by decide) h0 h1 (by decide) (by decide) rfl (by show (mst t sL 6 0 p).2 = false; rw [wL]) ?_
      exact s_hit (S := sR) (lst := [sL, sR]) (j := 1) ht (by decide) h0 h1 (by decide) rfl hR
    · rw [if_neg c, if_pos (by omega)]
      refine s_miss (S := sT) (lst := [sT, sL, sR]) (j := 0) ht (by decide) h0 h1 (by decide) (by decide) rfl (by show (mst t sT 6 0 p).2 = false; rw [wT]) ?_
      refine s_miss (S := sL) (lst := [sT, sL, sR]) (j := 1) ht (by decide) h0 h1 (by decide) (by decide) rfl (by show (mst t sL 6 0 p).2 = false; rw [wL]) ?_
      exact s_hit (S := sR) (lst := [sT, sL, sR]) (j := 2) ht (by decide) h0 h1 (by decide) rfl hR
  rcases s_R (ps := ps) (zs := zs) (a := 0) (b := 0) (c := 0) ht h0 h1 hzs hw hR with ⟨u, v, w, q, hx, q0, q1, hg⟩ | ⟨ns, f, hx, f0, f1, hg⟩
  · refine ⟨if q < t.size then (1, q, [], [], 0, 0, 0) else told ps zs u v w, hg _ (s_over (by omega) q1), i_line ?_, ?_, ?_⟩
    · unfold frmOf
      by_cases c : zs.length > 0
      · rw [if_pos c]
        refine i_skip (F := fL) (j := 0) ht h0 h1 (by decide) (by decide) rfl (by decide) (by rw [show fL.size = 12 from rfl, skip_L (by rw [wL])]) ?_
        exact i_R (forms := [fL, fR]) (j := 1) ht h0 h1 (by decide) rfl hx
      · rw [if_neg c, if_pos (by omega)]
        refine i_skip (F := fT) (j := 0) ht h0 h1 (by decide) (by decide) rfl (by decide) (by rw [show fT.size = 16 from rfl, skip_T (by rw [wT])]) ?_
        refine i_skip (F := fL) (j := 1) ht h0 h1 (by decide) (by decide) rfl (by decide) (by rw [show fL.size = 12 from rfl, skip_L (by rw [wL])]) ?_
        exact i_R (forms := [fT, fL, fR]) (j := 2) ht h0 h1 (by decide) rfl hx
    · split
      · simp
      · unfold told; split
        · exact hps
        · simp
    · split
      · simp
      · unfold told; split
        · exact hzs
        · simp
  · refine ⟨(1, f, [], [], 0, 0, 0), hg, i_line ?_, by simp, by simp⟩
    unfold frmOf
    by_cases c : zs.length > 0
    · rw [if_pos c]
      refine i_skip (F := fL) (j := 0) ht h0 h1 (by decide) (by decide) rfl (by decide) (by rw [show fL.size = 12 from rfl, skip_L (by rw [wL])]) ?_
      rw [show fL.size = 12 from rfl, skip_L (by rw [wL]), wL]
      refine i_skip (F := fR) (j := 1) ht h0 h1 (by decide) (by decide) rfl (by decide) (by rw [show fR.size = 22 from rfl, hx]) ?_
      rw [show fR.size = 22 from rfl, hx]
      simp only
      rw [mx_r (x := p) (y := p) (by omega), mx_r (x := p) (y := f) (by omega)]
      exact i_end
    · rw [if_neg c, if_pos (by omega)]
      refine i_skip (F := fT) (j := 0) ht h0 h1 (by decide) (by decide) rfl (by decide) (by rw [show fT.size = 16 from rfl, skip_T (by rw [wT])]) ?_
      rw [show fT.size = 16 from rfl, skip_T (by rw [wT]), wT]
      refine i_skip (F := fL) (j := 1) ht h0 h1 (by decide) (by decide) rfl (by decide) (by rw [show fL.size = 12 from rfl, skip_L (by rw [wL])]) ?_
      rw [show fL.size = 12 from rfl, skip_L (by rw [wL]), wL]
      refine i_skip (F := fR) (j := 2) ht h0 h1 (by decide) (by decide) rfl (by decide) (by rw [show fR.size = 22 from rfl, hx]) ?_
      rw [show fR.size = 22 from rfl, hx]
      simp only
      rw [mx_r (x := p) (y := p + 3) (by omega), mx_l (x := p + 3) (y := p) (by omega), mx_r (x := p + 3) (y := f) (by omega)]
      exact i_end
end
end Go.Proofs.YtanjbdgmnecacaaDoor.Pure
