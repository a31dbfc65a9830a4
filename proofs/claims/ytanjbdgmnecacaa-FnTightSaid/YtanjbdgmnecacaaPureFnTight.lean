/- At every list of bytes the law FnTight answers true: with one zone more, a longer train or a nearer end nothing becomes safe that was not. Conditions: the list holds bytes and fits into memory. -/
import Derived.Test.YtanjbdgmnecacaaPAx0
import Derived.Test.YtanjbdgmnecacaaPAx13
import Derived.Test.YtanjbdgmnecacaaPAx31
import Derived.Test.YtanjbdgmnecacaaPrM
import Derived.Test.YtanjbdgmnecacaaPrCs
import Derived.Test.YtanjbdgmnecacaaPrDw
import Derived.Test.YtanjbdgmnecacaaPrBy
import Derived.Test.YtanjbdgmnecacaaSized
set_option linter.unusedVariables false
set_option linter.unusedSimpArgs false
namespace Go.Proofs.Ytanjbdgmnecacaa.Pure
open Go.RowKit Go.Proofs.YtanjbdgmnecacaaW.PrintWords Go.Proofs.YtanjbdgmnecacaaW.PrintLast Go.Proofs.Ytanjbdgmnecacaa.PA Go.Proofs.Ytanjbdgmnecacaa.M
theorem ovA_le (tr a b : Int) (l : List S45) : ∀ s, ovA tr a b l s ≤ s := by
  induction l with
  | nil => intro s; exact Int.le_refl s
  | cons z l ih =>
    intro s
    simp only [ovA]
    have := ih (if z.f0 ≤ b ∧ a ≤ z.f1 + tr then min s z.f2 else s)
    split at this <;> rename_i h
    · rw [if_pos h]; omega
    · rw [if_neg h]; omega
theorem ovA_app (tr a b : Int) (l m : List S45) : ∀ s, ovA tr a b (l ++ m) s = ovA tr a b m (ovA tr a b l s) := by
  induction l with
  | nil => intro s; rfl
  | cons z l ih => intro s; simp only [List.cons_append, ovA]; exact ih _
theorem ovA_tr {tr tr' : Int} (h : tr ≤ tr') (a b : Int) (l : List S45) : ∀ s s', s ≤ s' → ovA tr' a b l s ≤ ovA tr a b l s' := by
  induction l with
  | nil => intro s s' hs; exact hs
  | cons z l ih =>
    intro s s' hs
    simp only [ovA]
    refine ih _ _ ?_
    by_cases c : z.f0 ≤ b ∧ a ≤ z.f1 + tr
    · rw [if_pos c, if_pos ⟨c.1, by omega⟩]; omega
    · rw [if_neg c]
      split <;> omega
section
variable {P Q : PR}
theorem tight_safe (hg : Good P) (h0 : Q.ps = P.ps) (h1 : Q.de = P.de) (h2 : Q.en ≤ P.en) (h3 : ∀ a b, Q.O a b ≤ P.O a b) {x v : Int} (h : Q.safe x v = true) : P.safe x v = true := by
  unfold PR.safe at h ⊢
  rw [Bool.and_eq_true, Bool.and_eq_true] at h ⊢
  obtain ⟨⟨ho, hv⟩, hs⟩ := h
  have ho' := okB_iff.mp ho
  have hv' := hv
  rw [Bool.and_eq_true, decide_eq_true_eq, decide_eq_true_eq] at hv'
  refine ⟨⟨okB_iff.mpr ⟨hg, ho'.2.1, by have := ho'.2.2; rw [h0] at this; exact this⟩, hv⟩, ?_⟩
  unfold PR.sf at hs ⊢
  have hR : Q.R = P.R := by funext y; unfold PR.R; rw [h0]
  rw [hR, h1] at hs
  exact sf_tight h3 h2 _ hv'.1 (Nat.le_refl _) hs
theorem tight_most (hg : Good P) (h0 : Q.ps = P.ps) (h1 : Q.de = P.de) (h2 : Q.en ≤ P.en) (h3 : ∀ a b, Q.O a b ≤ P.O a b) {x : Int} (hx0 : 0 ≤ x) (hx : x ≤ P.en) : Q.mostNow x ≤ P.mostNow x := by
  have hen := hg.en1
  have hP : P.okB x = true := okB_iff.mpr ⟨hg, hx0, by omega⟩
  unfold PR.mostNow
  rw [if_pos hP]
  obtain ⟨m0, _⟩ := most_spec hg hx
  by_cases c : Q.okB x = true
  · rw [if_pos c]
    unfold PR.most
    refine mostA_mono (fun v hv h => ?_) _ _ (by omega)
    have hR : Q.R = P.R := by funext y; unfold PR.R; rw [h0]
    unfold PR.sf at h ⊢
    rw [hR, h1] at h
    exact sf_tight h3 h2 _ hv (Nat.le_refl _) h
  · rw [if_neg c]; omega
theorem tight_j0 {l : List Int} (hw : ∀ x ∈ l, (Lit.int .u8 x).wf = true) (hg : Good P) (h0 : Q.ps = P.ps) (h1 : Q.de = P.de) (h2 : Q.en ≤ P.en) (h3 : ∀ a b, Q.O a b ≤ P.O a b) {x : Int} (hx0 : 0 ≤ x) (hx : x ≤ P.en) :
    Ev (fun k => laws_FnTight.j0 k l x P.ps P.zs P.tr P.en P.de Q.ps Q.zs Q.tr Q.en Q.de) true := by
  have loop : ∀ d i : Nat, i + d = 20 → Ev (fun k => laws_FnTight.l0 k l x i P.ps P.zs P.tr P.en P.de Q.ps Q.zs Q.tr Q.en Q.de) true := by
    intro d
    induction d with
    | zero =>
      intro i h
      refine Ev.step (fun k => by rw [laws_FnTight.l0]) (neg_ (by omega) (Ev.bind (ev_MostNow (P := Q) x) ?_))
      exact Ev.bind (ev_MostNow (P := P) x) (now_ (decide_eq_true (tight_most hg h0 h1 h2 h3 hx0 hx)))
    | succ d ih =>
      intro i h
      obtain ⟨b, eb, b0, b1⟩ := wByte_some l hw (i + 3) (by omega)
      obtain ⟨c, ec, c0, c1⟩ := wByte_some l hw i (by omega)
      have hn := ih (i + 1) (by omega)
      refine Ev.step (fun k => by rw [laws_FnTight.l0, w64 (a := (i : Int) + 3) (by omega) (by omega), w64 (a := (i : Int) + 1) (by omega) (by omega)]) (pos_ (by omega) (bindc eb (bindc ec ?_)))
      generalize wrap64 (b * wrap64 (1 + Int.tmod c 3)) = v
      refine Ev.bind (ev_Safe (P := Q) x v) ?_
      by_cases hs : Q.safe x v = true
      · refine pos_ hs (Ev.bind (ev_Safe (P := P) x v) (pos_ (tight_safe hg h0 h1 h2 h3 hs) (Ev.bind (ev_Safe (P := Q) x v) (Ev.bind (ev_sSafe (P := Q) x v) (neg_ (by simp) ?_)))))
        exact hn
      · refine neg_ hs (Ev.bind (ev_Safe (P := Q) x v) (Ev.bind (ev_sSafe (P := Q) x v) (neg_ (by simp) ?_)))
        exact hn
  refine Ev.step (fun k => by rw [laws_FnTight.j0]) (bindc (iPOk (P := Q)) ?_)
  by_cases c : pokV Q.ps Q.zs Q.tr Q.en Q.de = 0
  · exact pos_ c (loop 20 0 (by omega))
  · refine neg_ c (Ev.bind (ev_sPOk Q.ps Q.zs Q.tr Q.en Q.de) (now_ ?_))
    simpa using c
end
theorem FnTight : laws_FnTight.Pure := by
  intro l _ _ hw
  refine Ev.rounds ?_
  simp only [laws_FnTight.f]
  by_cases hc : (l.length : Int) > 1048576
  · exact pos_ hc (now_ rfl)
  refine neg_ hc ?_
  obtain ⟨sc, P, x, ws, hE, hsc, hD, hx0, hx1, hws⟩ := dr_Profiles hw
  have hg := hD.good
  have hz := hg.z60
  have en0 := hg.en0
  have en1 := hg.en1
  have tr0 := hg.tr0
  have tr1 := hg.tr1
  have ht := hg.tot
  obtain ⟨b, eb, b0, b1⟩ := wByte_some l hw 0 (by omega)
  obtain ⟨c, ec, c0, c1⟩ := wByte_some l hw 1 (by omega)
  obtain ⟨e, ee, e0, e1⟩ := wByte_some l hw 2 (by omega)
  refine Ev.bind hE (bindc rfl (pos_ (by simp; omega) (bindc rfl (bindc eb ?_))))
  simp only [List.nil_append]
  by_cases k0 : Int.tmod b 3 = 0
  · refine pos_ k0 (bindc ec (bindc ee (pos_ (by omega) ?_)))
    generalize (⟨x, _, _⟩ : S45) = z
    refine tight_j0 (P := P) (Q := ⟨P.ps, P.zs ++ [z], P.tr, P.en, P.de⟩) hw hg rfl rfl (Int.le_refl _) (fun a b => ?_) hx0 hx1
    show ovA P.tr a b (P.zs ++ [z]) 10000 ≤ ovA P.tr a b P.zs 10000
    rw [ovA_app]; exact ovA_le _ _ _ _ _
  refine neg_ k0 ?_
  by_cases k1 : Int.tmod b 3 = 1
  · refine pos_ k1 (bindc ec ?_)
    rw [w64 (a := P.tr + c) (by omega) (by omega)]
    refine tight_j0 (P := P) (Q := ⟨P.ps, P.zs, P.tr + c, P.en, P.de⟩) hw hg rfl rfl (Int.le_refl _) (fun a b => ?_) hx0 hx1
    exact ovA_tr (show P.tr ≤ P.tr + c by omega) a b P.zs 10000 10000 (Int.le_refl _)
  · refine neg_ k1 (bindc ec ?_)
    have hm : Int.tmod c 5 = c % 5 := Int.tmod_eq_emod_of_nonneg c0
    rw [hm]
    have q0 : 0 ≤ c % 5 := by omega
    have q1 : c % 5 ≤ 4 := by omega
    generalize c % 5 = r at q0 q1
    rw [w64 (a := P.en - x) (by omega) (by omega)]
    have p0 : 0 ≤ (P.en - x) * r := Int.mul_nonneg (by omega) q0
    have p1 : (P.en - x) * r ≤ (P.en - x) * 4 := Int.mul_le_mul_of_nonneg_left q1 (by omega)
    rw [w64 (a := (P.en - x) * r) (by omega) (by omega)]
    generalize (P.en - x) * r = y at p0 p1
    rw [Int.tdiv_eq_ediv_of_nonneg p0, w64 (a := y / 8) (by omega) (by omega), w64 (a := P.en - y / 8) (by omega) (by omega)]
    exact tight_j0 (P := P) (Q := ⟨P.ps, P.zs, P.tr, P.en - y / 8, P.de⟩) hw hg rfl rfl (show P.en - y / 8 ≤ P.en by omega) (fun a b => Int.le_refl _) hx0 hx1
end Go.Proofs.Ytanjbdgmnecacaa.Pure
