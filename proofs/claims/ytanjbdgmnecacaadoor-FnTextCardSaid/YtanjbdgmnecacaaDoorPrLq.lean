/- Reading a text line by line, of the reference: what each line comes to. Condition: the text is no longer than the program takes. -/
import Derived.Test.YtanjbdgmnecacaaDoorPTx0
import Derived.Test.YtanjbdgmnecacaaDoorPTx10
import Derived.Test.YtanjbdgmnecacaaDoorPTx23
import Derived.Test.YtanjbdgmnecacaaDoorPTx24
import Derived.Test.YtanjbdgmnecacaaDoorPTx25
import Derived.Test.YtanjbdgmnecacaaDoorPTx26
import Derived.Test.YtanjbdgmnecacaaDoorPrLw
set_option linter.unusedVariables false
set_option linter.unusedSimpArgs false
namespace Go.Proofs.YtanjbdgmnecacaaDoor.Pure
open Go.RowKit Go.Proofs.YtanjbdgmnecacaaDoorW.PrintWords Go.Proofs.YtanjbdgmnecacaaDoorW.PrintLast Go.Proofs.YtanjbdgmnecacaaDoor.PT Go.Proofs.YtanjbdgmnecacaaDoor.M
section
variable {t : ByteArray} {p : Int} {lst : List ByteArray} {ps : List S49} {zs : List S56} {a b c : Int}
/-- Behind a fault: told at its place. -/
theorem s_bad {f : Int} {over : Bool} (hf : 0 ≤ f) : Ev (fun k => spec_ReadProfile.l0 k t lst over t p f ps zs a b c) (1, f, [], [], 0, 0, 0) := by
  refine Ev.step (fun k => by rw [spec_ReadProfile.l0]) (neg_ (by omega) ?_)
  refine Ev.step (fun k => by rw [spec_ReadProfile.j1]) (neg_ (by decide) (neg_ (by omega) ?_))
  refine Ev.step (fun k => by rw [spec_ReadProfile.j2]) (neg_ (by decide) ?_)
  exact Ev.step (fun k => by rw [spec_ReadProfile.j3]) (pos_ hf (now_ rfl))
theorem s_over (h0 : 0 ≤ p) (h1 : p ≤ t.size) : Ev (fun k => spec_ReadProfile.l0 k t lst true t p (-1) ps zs a b c) (if p < t.size then (1, p, [], [], 0, 0, 0) else told ps zs a b c) := by
  refine Ev.step (fun k => by rw [spec_ReadProfile.l0]) (pos_ (by decide) ?_)
  refine Ev.step (fun k => by rw [spec_ReadProfile.j1]) (neg_ (by decide) (pos_ (by decide) ?_))
  by_cases c1 : p < t.size
  · rw [decide_eq_true c1, if_pos c1]
    refine Ev.step (fun k => by rw [spec_ReadProfile.j2]) (pos_ rfl ?_)
    exact Ev.step (fun k => by rw [spec_ReadProfile.j3]) (pos_ h0 (now_ rfl))
  · rw [decide_eq_false c1, if_neg c1]
    refine Ev.step (fun k => by rw [spec_ReadProfile.j2]) (neg_ (by decide) ?_)
    refine Ev.step (fun k => by rw [spec_ReadProfile.j3]) (neg_ (by decide) (Ev.bind (ev_sPOk ps zs a b c) ?_))
    unfold told
    by_cases c2 : pokV ps zs a b c = 0
    · exact pos_ c2 (now_ (if_pos c2).symm)
    · exact neg_ c2 (now_ (if_neg c2).symm)
/-- No word stands there. -/
theorem s_none {f : Int} (hf : 0 ≤ f) (h : Ev (fun k => spec_l5R_word.l0 k 0 lst lst.length 0 t p (-1)) (⟨#[]⟩, t, p, f)) : Ev (fun k => spec_ReadProfile.l0 k t lst false t p (-1) ps zs a b c) (1, f, [], [], 0, 0, 0) := by
  refine Ev.step (fun k => by rw [spec_ReadProfile.l0]) (pos_ (by decide) ?_)
  refine Ev.step (fun k => by rw [spec_ReadProfile.j1]) (pos_ (show (!false) = true from rfl) ?_)
  have hw : Ev (fun k => spec_l5R_word.f k t p (-1) lst) (⟨#[]⟩, t, p, f) := by simp only [spec_l5R_word.f]; exact h
  refine Ev.bind hw (neg_ (show ¬ (⟨#[]⟩ : ByteArray).toList = ([116,114,97,99,107,32] : List UInt8) from by decide +kernel) (neg_ (show ¬ (⟨#[]⟩ : ByteArray).toList = ([108,105,109,105,116,32] : List UInt8) from by decide +kernel) (neg_ (show ¬ (⟨#[]⟩ : ByteArray).toList = ([116,114,97,105,110,32] : List UInt8) from by decide +kernel) (Ev.bind (ev_must_bad hf) ?_))))
  exact s_bad hf
/-- The word 'track' stands there. -/
theorem s_T (ht : t.size ≤ 3000) (h0 : 0 ≤ p) (h1 : p ≤ t.size) (hps : ps.length ≤ 3000) (hw : Ev (fun k => spec_l5R_word.l0 k 0 lst lst.length 0 t p (-1)) (sT, t, p + 6, -1)) (h : (mst t sT 6 0 p).2 = true) :
    (∃ u v q, mtc t fT 16 0 p [] = ([u, v], q, true) ∧ p + 6 ≤ q ∧ q ≤ t.size ∧ (∀ R : Int × Int × (List S49) × (List S56) × Int × Int × Int, Ev (fun k => spec_ReadProfile.l0 k t [sT, sL, sR] false t q (-1) (ps ++ [⟨u, v⟩]) zs a b c) R → Ev (fun k => spec_ReadProfile.l0 k t lst false t p (-1) ps zs a b c) R)) ∨
    (∃ ns f, mtc t fT 16 0 p [] = (ns, f, false) ∧ p + 6 ≤ f ∧ f ≤ t.size ∧ Ev (fun k => spec_ReadProfile.l0 k t lst false t p (-1) ps zs a b c) (1, f, [], [], 0, 0, 0)) := by
  have hl := mst_le t sT 6 0 p h1
  have hq := hl.2.2.2.mp h
  have hX : mtc t fT 16 0 p [] = mtc t fT 10 6 (p + 6) [] := by rw [f_T, if_pos h, hq]; rfl
  have hp6 : p + 6 ≤ t.size := by have := hl.2.1; rw [hq] at this; exact this
  have hwf : Ev (fun k => spec_l5R_word.f k t p (-1) lst) (sT, t, p + 6, -1) := by simp only [spec_l5R_word.f]; exact hw
  have go : ∀ {R' : Int × Int × (List S49) × (List S56) × Int × Int × Int}, Ev (fun k => (spec_l5R_num.f k t (p + 6) (-1)).bind fun bt132 => ((spec_l5R_must.f k bt132.2.1 bt132.2.2.1 bt132.2.2.2 (⟨#[32,98,114,97,107,101,32]⟩ : ByteArray)).bind fun bt136 => ((spec_l5R_num.f k bt136.1 bt136.2.1 bt136.2.2).bind fun bt139 => (if ps.length < 8796093022208 then ((spec_l5R_must.f k bt139.2.1 bt139.2.2.1 bt139.2.2.2 (⟨#[10]⟩ : ByteArray)).bind fun bt149 => (spec_ReadProfile.l0 k t (([sT, sL, sR] : List ByteArray)) false bt149.1 bt149.2.1 bt149.2.2 (ps ++ [(⟨bt132.1,bt139.1⟩ : S49)]) zs a b c)) else (none))))) R' → Ev (fun k => spec_ReadProfile.l0 k t lst false t p (-1) ps zs a b c) R' := by
    intro R' hR
    refine Ev.step (fun k => by rw [spec_ReadProfile.l0]) (pos_ (by decide) ?_)
    refine Ev.step (fun k => by rw [spec_ReadProfile.j1]) (pos_ (show (!false) = true from rfl) ?_)
    exact Ev.bind hwf (pos_ (show sT.toList = ([116,114,97,99,107,32] : List UInt8) from by decide +kernel) hR)
  rw [hX]
  rcases seg (t := t) (F := fT) (S := ⟨#[32,98,114,97,107,101,32]⟩) (m := 7) (e := 2) (i := 6) (ns := []) hp6 (by omega) (by decide) (by decide) (by omega) (by decide) with ⟨e1, e2, l1, l2, e3⟩ | ⟨f, ns', e1, l1, l2, e2⟩
  · have n1 := ev_num (t := t) (p := p + 6) ht (by omega) hp6
    rw [e1] at n1
    have m1 := ev_must (t := t) (S := ⟨#[32,98,114,97,107,101,32]⟩) ht (by decide) (p := (numE t (num t (p + 6))).2.1) (by omega) l2
    rw [show (⟨#[32,98,114,97,107,101,32]⟩ : ByteArray).size = 7 from rfl, if_pos e2] at m1
    have ml := mst_le t ⟨#[32,98,114,97,107,101,32]⟩ 7 0 (numE t (num t (p + 6))).2.1 l2
    generalize (mst t ⟨#[32,98,114,97,107,101,32]⟩ 7 0 (numE t (num t (p + 6))).2.1).1 = p2 at m1 ml e3
    generalize (numE t (num t (p + 6))).1 = v1 at n1 e3
    have n2 := ev_num (t := t) (p := p2) ht (by omega) ml.2.1
    rcases seg (t := t) (F := fT) (S := ⟨#[10]⟩) (m := 1) (e := 0) (i := 14) (p := p2) (ns := [v1]) ml.2.1 (by omega) (by decide) (by decide) (by omega) (by decide) with ⟨g1, g2, k1, k2, g3⟩ | ⟨f, ns', g1, k1, k2, g2⟩
    · rw [g1] at n2
      have m2 := ev_must (t := t) (S := ⟨#[10]⟩) ht (by decide) (p := (numE t (num t p2)).2.1) (by omega) k2
      rw [show (⟨#[10]⟩ : ByteArray).size = 1 from rfl, if_pos g2] at m2
      have ml2 := mst_le t ⟨#[10]⟩ 1 0 (numE t (num t p2)).2.1 k2
      refine .inl ⟨v1, (numE t (num t p2)).1, (mst t ⟨#[10]⟩ 1 0 (numE t (num t p2)).2.1).1, e3.trans g3, by omega, by omega, fun R hR => go ?_⟩
      exact Ev.bind n1 (Ev.bind m1 (Ev.bind n2 (pos_ (by omega) (Ev.bind m2 hR))))
    · refine .inr ⟨ns', f, e3.trans g1, by omega, k2, go ?_⟩
      rcases g2 with g2 | ⟨g2, k3, k4, g3⟩
      · rw [g2] at n2
        refine Ev.bind n1 (Ev.bind m1 (Ev.bind n2 (pos_ (by omega) (Ev.bind (ev_must_bad (show 0 ≤ f by omega)) ?_))))
        exact s_bad (show 0 ≤ f by omega)
      · rw [g2] at n2
        have m2 := ev_must (t := t) (S := ⟨#[10]⟩) ht (by decide) (p := (numE t (num t p2)).2.1) (by omega) k4
        rw [show (⟨#[10]⟩ : ByteArray).size = 1 from rfl, g3] at m2
        refine Ev.bind n1 (Ev.bind m1 (Ev.bind n2 (pos_ (by omega) (Ev.bind m2 ?_))))
        exact s_bad (show 0 ≤ f by omega)
  · refine .inr ⟨ns', f, e1, l1, l2, go ?_⟩
    have n1 := ev_num (t := t) (p := p + 6) ht (by omega) hp6
    rcases e2 with e2 | ⟨e2, l3, l4, e3⟩
    · rw [e2] at n1
      refine Ev.bind n1 (Ev.bind (ev_must_bad (show 0 ≤ f by omega)) (Ev.bind (ev_num_bad (show 0 ≤ f by omega)) (pos_ (by omega) (Ev.bind (ev_must_bad (show 0 ≤ f by omega)) ?_))))
      exact s_bad (show 0 ≤ f by omega)
    · rw [e2] at n1
      have m1 := ev_must (t := t) (S := ⟨#[32,98,114,97,107,101,32]⟩) ht (by decide) (p := (numE t (num t (p + 6))).2.1) (by omega) l4
      rw [show (⟨#[32,98,114,97,107,101,32]⟩ : ByteArray).size = 7 from rfl, e3] at m1
      refine Ev.bind n1 (Ev.bind m1 (Ev.bind (ev_num_bad (show 0 ≤ f by omega)) (pos_ (by omega) (Ev.bind (ev_must_bad (show 0 ≤ f by omega)) ?_))))
      exact s_bad (show 0 ≤ f by omega)
/-- The word 'limit' stands there. -/
theorem s_L (ht : t.size ≤ 3000) (h0 : 0 ≤ p) (h1 : p ≤ t.size) (hzs : zs.length ≤ 3000) (hw : Ev (fun k => spec_l5R_word.l0 k 0 lst lst.length 0 t p (-1)) (sL, t, p + 6, -1)) (h : (mst t sL 6 0 p).2 = true) :
    (∃ v1 v2 v3 q, mtc t fL 12 0 p [] = ([v1, v2, v3], q, true) ∧ p + 6 ≤ q ∧ q ≤ t.size ∧ (∀ R : Int × Int × (List S49) × (List S56) × Int × Int × Int, Ev (fun k => spec_ReadProfile.l0 k t [sL, sR] false t q (-1) ps (zs ++ [⟨v1, v2, v3⟩]) a b c) R → Ev (fun k => spec_ReadProfile.l0 k t lst false t p (-1) ps zs a b c) R)) ∨
    (∃ ns f, mtc t fL 12 0 p [] = (ns, f, false) ∧ p + 6 ≤ f ∧ f ≤ t.size ∧ Ev (fun k => spec_ReadProfile.l0 k t lst false t p (-1) ps zs a b c) (1, f, [], [], 0, 0, 0)) := by
  have hl := mst_le t sL 6 0 p h1
  have hq := hl.2.2.2.mp h
  have hX : mtc t fL 12 0 p [] = mtc t fL 6 6 (p + 6) [] := by rw [f_L, if_pos h, hq]; rfl
  have hp6 : p + 6 ≤ t.size := by have := hl.2.1; rw [hq] at this; exact this
  have hwf : Ev (fun k => spec_l5R_word.f k t p (-1) lst) (sL, t, p + 6, -1) := by simp only [spec_l5R_word.f]; exact hw
  have go : ∀ {R' : Int × Int × (List S49) × (List S56) × Int × Int × Int}, Ev (fun k => (spec_l5R_num.f k t (p + 6) (-1)).bind fun n0 => ((spec_l5R_must.f k n0.2.1 n0.2.2.1 n0.2.2.2 (⟨#[32]⟩ : ByteArray)).bind fun m0 => ((spec_l5R_num.f k m0.1 m0.2.1 m0.2.2).bind fun n1 => ((spec_l5R_must.f k n1.2.1 n1.2.2.1 n1.2.2.2 (⟨#[32]⟩ : ByteArray)).bind fun m1 => ((spec_l5R_num.f k m1.1 m1.2.1 m1.2.2).bind fun n2 => (if zs.length < 5864062014805 then ((spec_l5R_must.f k n2.2.1 n2.2.2.1 n2.2.2.2 (⟨#[10]⟩ : ByteArray)).bind fun m2 => (spec_ReadProfile.l0 k t ([sL, sR] : List ByteArray) false m2.1 m2.2.1 m2.2.2 ps (zs ++ [(⟨n0.1,n1.1,n2.1⟩ : S56)]) a b c) ) else none)))))) R' → Ev (fun k => spec_ReadProfile.l0 k t lst false t p (-1) ps zs a b c) R' := by
    intro R' hR
    refine Ev.step (fun k => by rw [spec_ReadProfile.l0]) (pos_ (by decide) ?_)
    refine Ev.step (fun k => by rw [spec_ReadProfile.j1]) (pos_ (show (!false) = true from rfl) ?_)
    exact Ev.bind hwf (neg_ (show ¬ sL.toList = ([116,114,97,99,107,32] : List UInt8) from by decide +kernel) (pos_ (show sL.toList = ([108,105,109,105,116,32] : List UInt8) from by decide +kernel) hR))
  rw [hX]
  have n1 := ev_num (t := t) (p := (p + 6)) ht (by omega) hp6
  rcases seg (t := t) (F := fL) (S := ⟨#[32]⟩) (m := 1) (e := 4) (i := 6) (p := (p + 6)) (ns := []) hp6 (by omega) (by decide) (by decide) (by omega) (by decide) with ⟨a1, b1, c1, d1, e1⟩ | ⟨f, ns', e1, c1, d1, x1⟩
  rotate_left
  · refine .inr ⟨ns', f, e1, by omega, by omega, go ?_⟩
    rcases x1 with x | ⟨x, y1, y2, y3⟩
    · rw [x] at n1
      refine Ev.bind (n1) (Ev.bind (ev_must_bad (show 0 ≤ f by omega)) (Ev.bind (ev_num_bad (show 0 ≤ f by omega)) (Ev.bind (ev_must_bad (show 0 ≤ f by omega)) (Ev.bind (ev_num_bad (show 0 ≤ f by omega)) (pos_ (by omega) (Ev.bind (ev_must_bad (show 0 ≤ f by omega)) (?_)))))))
      exact s_bad (show 0 ≤ f by omega)
    · rw [x] at n1
      have m1 := ev_must (t := t) (S := ⟨#[32]⟩) ht (by decide) (p := (numE t (num t (p + 6))).2.1) (by omega) y2
      rw [show (⟨#[32]⟩ : ByteArray).size = 1 from rfl, y3] at m1
      refine Ev.bind (n1) (Ev.bind (m1) (Ev.bind (ev_num_bad (show 0 ≤ f by omega)) (Ev.bind (ev_must_bad (show 0 ≤ f by omega)) (Ev.bind (ev_num_bad (show 0 ≤ f by omega)) (pos_ (by omega) (Ev.bind (ev_must_bad (show 0 ≤ f by omega)) (?_)))))))
      exact s_bad (show 0 ≤ f by omega)
  rw [a1] at n1
  have m1 := ev_must (t := t) (S := ⟨#[32]⟩) ht (by decide) (p := (numE t (num t (p + 6))).2.1) (by omega) d1
  rw [show (⟨#[32]⟩ : ByteArray).size = 1 from rfl, if_pos b1] at m1
  have l1 := mst_le t ⟨#[32]⟩ 1 0 (numE t (num t (p + 6))).2.1 d1
  clear b1
  generalize (mst t ⟨#[32]⟩ 1 0 (numE t (num t (p + 6))).2.1).1 = p1 at m1 l1 e1
  generalize (numE t (num t (p + 6))).1 = v1 at n1 e1
  have n2 := ev_num (t := t) (p := p1) ht (by omega) l1.2.1
  rcases seg (t := t) (F := fL) (S := ⟨#[32]⟩) (m := 1) (e := 2) (i := 8) (p := p1) (ns := [v1]) l1.2.1 (by omega) (by decide) (by decide) (by omega) (by decide) with ⟨a2, b2, c2, d2, e2⟩ | ⟨f, ns', e2, c2, d2, x2⟩
  rotate_left
  · refine .inr ⟨ns', f, (e1.trans e2), by omega, by omega, go ?_⟩
    rcases x2 with x | ⟨x, y1, y2, y3⟩
    · rw [x] at n2
      refine Ev.bind (n1) (Ev.bind (m1) (Ev.bind (n2) (Ev.bind (ev_must_bad (show 0 ≤ f by omega)) (Ev.bind (ev_num_bad (show 0 ≤ f by omega)) (pos_ (by omega) (Ev.bind (ev_must_bad (show 0 ≤ f by omega)) (?_)))))))
      exact s_bad (show 0 ≤ f by omega)
    · rw [x] at n2
      have m2 := ev_must (t := t) (S := ⟨#[32]⟩) ht (by decide) (p := (numE t (num t p1)).2.1) (by omega) y2
      rw [show (⟨#[32]⟩ : ByteArray).size = 1 from rfl, y3] at m2
      refine Ev.bind (n1) (Ev.bind (m1) (Ev.bind (n2) (Ev.bind (m2) (Ev.bind (ev_num_bad (show 0 ≤ f by omega)) (pos_ (by omega) (Ev.bind (ev_must_bad (show 0 ≤ f by omega)) (?_)))))))
      exact s_bad (show 0 ≤ f by omega)
  rw [a2] at n2
  have m2 := ev_must (t := t) (S := ⟨#[32]⟩) ht (by decide) (p := (numE t (num t p1)).2.1) (by omega) d2
  rw [show (⟨#[32]⟩ : ByteArray).size = 1 from rfl, if_pos b2] at m2
  have l2 := mst_le t ⟨#[32]⟩ 1 0 (numE t (num t p1)).2.1 d2
  clear b2
  generalize (mst t ⟨#[32]⟩ 1 0 (numE t (num t p1)).2.1).1 = p2 at m2 l2 e2
  generalize (numE t (num t p1)).1 = v2 at n2 e2
  have n3 := ev_num (t := t) (p := p2) ht (by omega) l2.2.1
  rcases seg (t := t) (F := fL) (S := ⟨#[10]⟩) (m := 1) (e := 0) (i := 10) (p := p2) (ns := [v1, v2]) l2.2.1 (by omega) (by decide) (by decide) (by omega) (by decide) with ⟨a3, b3, c3, d3, e3⟩ | ⟨f, ns', e3, c3, d3, x3⟩
  rotate_left
  · refine .inr ⟨ns', f, (e1.trans (e2.trans e3)), by omega, by omega, go ?_⟩
    rcases x3 with x | ⟨x, y1, y2, y3⟩
    · rw [x] at n3
      refine Ev.bind (n1) (Ev.bind (m1) (Ev.bind (n2) (Ev.bind (m2) (Ev.bind (n3) (pos_ (by omega) (Ev.bind (ev_must_bad (show 0 ≤ f by omega)) (?_)))))))
      exact s_bad (show 0 ≤ f by omega)
    · rw [x] at n3
      have m3 := ev_must (t := t) (S := ⟨#[10]⟩) ht (by decide) (p := (numE t (num t p2)).2.1) (by omega) y2
      rw [show (⟨#[10]⟩ : ByteArray).size = 1 from rfl, y3] at m3
      refine Ev.bind (n1) (Ev.bind (m1) (Ev.bind (n2) (Ev.bind (m2) (Ev.bind (n3) (pos_ (by omega) (Ev.bind (m3) (?_)))))))
      exact s_bad (show 0 ≤ f by omega)
  rw [a3] at n3
  have m3 := ev_must (t := t) (S := ⟨#[10]⟩) ht (by decide) (p := (numE t (num t p2)).2.1) (by omega) d3
  rw [show (⟨#[10]⟩ : ByteArray).size = 1 from rfl, if_pos b3] at m3
  have l3 := mst_le t ⟨#[10]⟩ 1 0 (numE t (num t p2)).2.1 d3
  clear b3
  generalize (mst t ⟨#[10]⟩ 1 0 (numE t (num t p2)).2.1).1 = p3 at m3 l3 e3
  generalize (numE t (num t p2)).1 = v3 at n3 e3
  refine .inl ⟨v1, v2, v3, p3, e1.trans (e2.trans (e3)), by omega, l3.2.1, fun R hR => go ?_⟩
  exact Ev.bind (n1) (Ev.bind (m1) (Ev.bind (n2) (Ev.bind (m2) (Ev.bind (n3) (pos_ (by omega) (Ev.bind (m3) (hR)))))))
/-- The word 'train' stands there. -/
theorem s_R (ht : t.size ≤ 3000) (h0 : 0 ≤ p) (h1 : p ≤ t.size) (hzs : zs.length ≤ 3000) (hw : Ev (fun k => spec_l5R_word.l0 k 0 lst lst.length 0 t p (-1)) (sR, t, p + 6, -1)) (h : (mst t sR 6 0 p).2 = true) :
    (∃ v1 v2 v3 q, mtc t fR 22 0 p [] = ([v1, v2, v3], q, true) ∧ p + 6 ≤ q ∧ q ≤ t.size ∧ (∀ R : Int × Int × (List S49) × (List S56) × Int × Int × Int, Ev (fun k => spec_ReadProfile.l0 k t lst true t q (-1) ps zs v1 v2 v3) R → Ev (fun k => spec_ReadProfile.l0 k t lst false t p (-1) ps zs a b c) R)) ∨
    (∃ ns f, mtc t fR 22 0 p [] = (ns, f, false) ∧ p + 6 ≤ f ∧ f ≤ t.size ∧ Ev (fun k => spec_ReadProfile.l0 k t lst false t p (-1) ps zs a b c) (1, f, [], [], 0, 0, 0)) := by
  have hl := mst_le t sR 6 0 p h1
  have hq := hl.2.2.2.mp h
  have hX : mtc t fR 22 0 p [] = mtc t fR 16 6 (p + 6) [] := by rw [f_R, if_pos h, hq]; rfl
  have hp6 : p + 6 ≤ t.size := by have := hl.2.1; rw [hq] at this; exact this
  have hwf : Ev (fun k => spec_l5R_word.f k t p (-1) lst) (sR, t, p + 6, -1) := by simp only [spec_l5R_word.f]; exact hw
  have go : ∀ {R' : Int × Int × (List S49) × (List S56) × Int × Int × Int}, Ev (fun k => (spec_l5R_num.f k t (p + 6) (-1)).bind fun n0 => ((spec_l5R_must.f k n0.2.1 n0.2.2.1 n0.2.2.2 (⟨#[32,101,110,100,32]⟩ : ByteArray)).bind fun m0 => ((spec_l5R_num.f k m0.1 m0.2.1 m0.2.2).bind fun n1 => ((spec_l5R_must.f k n1.2.1 n1.2.2.1 n1.2.2.2 (⟨#[32,100,101,108,97,121,32]⟩ : ByteArray)).bind fun m1 => ((spec_l5R_num.f k m1.1 m1.2.1 m1.2.2).bind fun n2 => ((spec_l5R_must.f k n2.2.1 n2.2.2.1 n2.2.2.2 (⟨#[10]⟩ : ByteArray)).bind fun m2 => (spec_ReadProfile.l0 k t lst true m2.1 m2.2.1 m2.2.2 ps zs n0.1 n1.1 n2.1))))))) R' → Ev (fun k => spec_ReadProfile.l0 k t lst false t p (-1) ps zs a b c) R' := by
    intro R' hR
    refine Ev.step (fun k => by rw [spec_ReadProfile.l0]) (pos_ (by decide) ?_)
    refine Ev.step (fun k => by rw [spec_ReadProfile.j1]) (pos_ (show (!false) = true from rfl) ?_)
    exact Ev.bind hwf (neg_ (show ¬ sR.toList = ([116,114,97,99,107,32] : List UInt8) from by decide +kernel) (neg_ (show ¬ sR.toList = ([108,105,109,105,116,32] : List UInt8) from by decide +kernel) (pos_ (show sR.toList = ([116,114,97,105,110,32] : List UInt8) from by decide +kernel) hR)))
  rw [hX]
  have n1 := ev_num (t := t) (p := (p + 6)) ht (by omega) hp6
  rcases seg (t := t) (F := fR) (S := ⟨#[32,101,110,100,32]⟩) (m := 5) (e := 10) (i := 6) (p := (p + 6)) (ns := []) hp6 (by omega) (by decide) (by decide) (by omega) (by decide) with ⟨a1, b1, c1, d1, e1⟩ | ⟨f, ns', e1, c1, d1, x1⟩
  rotate_left
  · refine .inr ⟨ns', f, e1, by omega, by omega, go ?_⟩
    rcases x1 with x | ⟨x, y1, y2, y3⟩
    · rw [x] at n1
      refine Ev.bind (n1) (Ev.bind (ev_must_bad (show 0 ≤ f by omega)) (Ev.bind (ev_num_bad (show 0 ≤ f by omega)) (Ev.bind (ev_must_bad (show 0 ≤ f by omega)) (Ev.bind (ev_num_bad (show 0 ≤ f by omega)) (Ev.bind (ev_must_bad (show 0 ≤ f by omega)) (?_))))))
      exact s_bad (show 0 ≤ f by omega)
    · rw [x] at n1
      have m1 := ev_must (t := t) (S := ⟨#[32,101,110,100,32]⟩) ht (by decide) (p := (numE t (num t (p + 6))).2.1) (by omega) y2
      rw [show (⟨#[32,101,110,100,32]⟩ : ByteArray).size = 5 from rfl, y3] at m1
      refine Ev.bind (n1) (Ev.bind (m1) (Ev.bind (ev_num_bad (show 0 ≤ f by omega)) (Ev.bind (ev_must_bad (show 0 ≤ f by omega)) (Ev.bind (ev_num_bad (show 0 ≤ f by omega)) (Ev.bind (ev_must_bad (show 0 ≤ f by omega)) (?_))))))
      exact s_bad (show 0 ≤ f by omega)
  rw [a1] at n1
  have m1 := ev_must (t := t) (S := ⟨#[32,101,110,100,32]⟩) ht (by decide) (p := (numE t (num t (p + 6))).2.1) (by omega) d1
  rw [show (⟨#[32,101,110,100,32]⟩ : ByteArray).size = 5 from rfl, if_pos b1] at m1
  have l1 := mst_le t ⟨#[32,101,110,100,32]⟩ 5 0 (numE t (num t (p + 6))).2.1 d1
  clear b1
  generalize (mst t ⟨#[32,101,110,100,32]⟩ 5 0 (numE t (num t (p + 6))).2.1).1 = p1 at m1 l1 e1
  generalize (numE t (num t (p + 6))).1 = v1 at n1 e1
  have n2 := ev_num (t := t) (p := p1) ht (by omega) l1.2.1
  rcases seg (t := t) (F := fR) (S := ⟨#[32,100,101,108,97,121,32]⟩) (m := 7) (e := 2) (i := 12) (p := p1) (ns := [v1]) l1.2.1 (by omega) (by decide) (by decide) (by omega) (by decide) with ⟨a2, b2, c2, d2, e2⟩ | ⟨f, ns', e2, c2, d2, x2⟩
  rotate_left
  · refine .inr ⟨ns', f, (e1.trans e2), by omega, by omega, go ?_⟩
    rcases x2 with x | ⟨x, y1, y2, y3⟩
    · rw [x] at n2
      refine Ev.bind (n1) (Ev.bind (m1) (Ev.bind (n2) (Ev.bind (ev_must_bad (show 0 ≤ f by omega)) (Ev.bind (ev_num_bad (show 0 ≤ f by omega)) (Ev.bind (ev_must_bad (show 0 ≤ f by omega)) (?_))))))
      exact s_bad (show 0 ≤ f by omega)
    · rw [x] at n2
      have m2 := ev_must (t := t) (S := ⟨#[32,100,101,108,97,121,32]⟩) ht (by decide) (p := (numE t (num t p1)).2.1) (by omega) y2
      rw [show (⟨#[32,100,101,108,97,121,32]⟩ : ByteArray).size = 7 from rfl, y3] at m2
      refine Ev.bind (n1) (Ev.bind (m1) (Ev.bind (n2) (Ev.bind (m2) (Ev.bind (ev_num_bad (show 0 ≤ f by omega)) (Ev.bind (ev_must_bad (show 0 ≤ f by omega)) (?_))))))
      exact s_bad (show 0 ≤ f by omega)
  rw [a2] at n2
  have m2 := ev_must (t := t) (S := ⟨#[32,100,101,108,97,121,32]⟩) ht (by decide) (p := (numE t (num t p1)).2.1) (by omega) d2
  rw [show (⟨#[32,100,101,108,97,121,32]⟩ : ByteArray).size = 7 from rfl, if_pos b2] at m2
  have l2 := mst_le t ⟨#[32,100,101,108,97,121,32]⟩ 7 0 (numE t (num t p1)).2.1 d2
  clear b2
  generalize (mst t ⟨#[32,100,101,108,97,121,32]⟩ 7 0 (numE t (num t p1)).2.1).1 = p2 at m2 l2 e2
  generalize (numE t (num t p1)).1 = v2 at n2 e2
  have n3 := ev_num (t := t) (p := p2) ht (by omega) l2.2.1
  rcases seg (t := t) (F := fR) (S := ⟨#[10]⟩) (m := 1) (e := 0) (i := 20) (p := p2) (ns := [v1, v2]) l2.2.1 (by omega) (by decide) (by decide) (by omega) (by decide) with ⟨a3, b3, c3, d3, e3⟩ | ⟨f, ns', e3, c3, d3, x3⟩
  rotate_left
  · refine .inr ⟨ns', f, (e1.trans (e2.trans e3)), by omega, by omega, go ?_⟩
    rcases x3 with x | ⟨x, y1, y2, y3⟩
    · rw [x] at n3
      refine Ev.bind (n1) (Ev.bind (m1) (Ev.bind (n2) (Ev.bind (m2) (Ev.bind (n3) (Ev.bind (ev_must_bad (show 0 ≤ f by omega)) (?_))))))
      exact s_bad (show 0 ≤ f by omega)
    · rw [x] at n3
      have m3 := ev_must (t := t) (S := ⟨#[10]⟩) ht (by decide) (p := (numE t (num t p2)).2.1) (by omega) y2
      rw [show (⟨#[10]⟩ : ByteArray).size = 1 from rfl, y3] at m3
      refine Ev.bind (n1) (Ev.bind (m1) (Ev.bind (n2) (Ev.bind (m2) (Ev.bind (n3) (Ev.bind (m3) (?_))))))
      exact s_bad (show 0 ≤ f by omega)
  rw [a3] at n3
  have m3 := ev_must (t := t) (S := ⟨#[10]⟩) ht (by decide) (p := (numE t (num t p2)).2.1) (by omega) d3
  rw [show (⟨#[10]⟩ : ByteArray).size = 1 from rfl, if_pos b3] at m3
  have l3 := mst_le t ⟨#[10]⟩ 1 0 (numE t (num t p2)).2.1 d3
  clear b3
  generalize (mst t ⟨#[10]⟩ 1 0 (numE t (num t p2)).2.1).1 = p3 at m3 l3 e3
  generalize (numE t (num t p2)).1 = v3 at n3 e3
  refine .inl ⟨v1, v2, v3, p3, e1.trans (e2.trans (e3)), by omega, l3.2.1, fun R hR => go ?_⟩
  exact Ev.bind (n1) (Ev.bind (m1) (Ev.bind (n2) (Ev.bind (m2) (Ev.bind (n3) (Ev.bind (m3) (hR))))))
end
end Go.Proofs.YtanjbdgmnecacaaDoor.Pure
