/- What the printed functions on whole profiles come to: the reference's ProfileOk is the plain 'pokV', the sums of lengths are 'tot'. No condition but what each lemma says. -/
import Derived.Test.YtanjbdgmnecacaaDoorPTx0
import Derived.Test.YtanjbdgmnecacaaDoorPTx10
import Derived.Test.YtanjbdgmnecacaaDoorPTx15
import Derived.Test.YtanjbdgmnecacaaDoorPTx16
import Derived.Test.YtanjbdgmnecacaaDoorMathB
set_option linter.unusedVariables false
set_option linter.unusedSimpArgs false
namespace Go.Proofs.YtanjbdgmnecacaaDoor.Pure
open Go.RowKit Go.Proofs.YtanjbdgmnecacaaDoorW.PrintWords Go.Proofs.YtanjbdgmnecacaaDoorW.PrintLast Go.Proofs.YtanjbdgmnecacaaDoor.PT Go.Proofs.YtanjbdgmnecacaaDoor.M
theorem l1in_t {x a b : Int} (h : a ≤ x ∧ x ≤ b) : spec_l1in.f x a b = some true := by
  unfold spec_l1in.f; rw [if_pos (by omega)]; simp; omega
theorem l1in_f {x a b : Int} (h : ¬ (a ≤ x ∧ x ≤ b)) : spec_l1in.f x a b = some false := by
  unfold spec_l1in.f; split
  · simp; omega
  · rfl
theorem brakes_t {v : Int} (hv : 10 ≤ v ∧ v ≤ 1000) : spec_l1brakes.f v = some true := by
  simp only [spec_l1brakes.f, l1in_t hv, Option.bind_some]
theorem brakes_f {v : Int} (hv : ¬ (10 ≤ v ∧ v ≤ 1000)) : spec_l1brakes.f v = some false := by
  simp only [spec_l1brakes.f, l1in_f hv, Option.bind_some]
/-- A profile. -/
structure PR where
  ps : List S49
  zs : List S56
  tr : Int
  en : Int
  de : Int
structure GoodP (ps : List S49) : Prop where
  n60 : ps.length ≤ 60
  hp : ∀ y ∈ ps, 1 ≤ y.f0 ∧ y.f0 ≤ 1666666 ∧ 10 ≤ y.f1 ∧ y.f1 ≤ 1000
structure Good (P : PR) : Prop where
  n1 : 1 ≤ P.ps.length
  gp : GoodP P.ps
  z60 : P.zs.length ≤ 60
  hz : ∀ z ∈ P.zs, 0 ≤ z.f0 ∧ z.f0 ≤ z.f1 ∧ z.f1 ≤ tot P.ps ∧ 1 ≤ z.f2 ∧ z.f2 ≤ 10000
  tr0 : 0 ≤ P.tr
  tr1 : P.tr ≤ 100000000
  en0 : 0 ≤ P.en
  en1 : P.en ≤ tot P.ps
  de0 : 0 ≤ P.de
  de1 : P.de ≤ 20
theorem pk_ok {y : S49} : pk_bad y = false ↔ (1 ≤ y.f0 ∧ y.f0 ≤ 1666666 ∧ 10 ≤ y.f1 ∧ y.f1 ≤ 1000) := by
  unfold pk_bad
  rw [Bool.not_eq_false', Bool.and_eq_true, Bool.and_eq_true, Bool.and_eq_true, decide_eq_true_eq, decide_eq_true_eq, decide_eq_true_eq, decide_eq_true_eq]
  omega
theorem zn_ok {n : Int} {z : S56} : zn_bad n z = false ↔ (0 ≤ z.f0 ∧ z.f0 ≤ z.f1 ∧ z.f1 ≤ n ∧ 1 ≤ z.f2 ∧ z.f2 ≤ 10000) := by
  unfold zn_bad inB
  simp only [Bool.not_eq_false', Bool.and_eq_true, decide_eq_true_eq]
  omega
theorem tot_bounds (l : List S49) (h : ∀ y ∈ l, 1 ≤ y.f0 ∧ y.f0 ≤ 1666666 ∧ 10 ≤ y.f1 ∧ y.f1 ≤ 1000) : (l.length : Int) ≤ tot l ∧ tot l ≤ 1666666 * l.length := by
  induction l with
  | nil => simp [tot]
  | cons x l ih =>
    have h1 := ih (fun y hy => h y (List.mem_cons_of_mem _ hy))
    have h2 := h x List.mem_cons_self
    simp only [tot, List.length_cons]
    omega
theorem GoodP.tot {ps : List S49} (h : GoodP ps) : 0 ≤ tot ps ∧ tot ps ≤ 100000000 := by
  have h1 := tot_bounds ps h.hp
  have h2 := h.n60
  omega
theorem pok_zero (ps : List S49) (zs : List S56) (tr en de : Int) : pokV ps zs tr en de = 0 ↔ Good ⟨ps, zs, tr, en, de⟩ := by
  unfold pokV
  constructor
  · intro h
    by_cases h1 : ps.length = 0 ∨ 60 < ps.length ∨ 60 < zs.length
    · rw [if_pos h1] at h; cases h
    rw [if_neg h1] at h
    by_cases h2 : ps.any pk_bad = true
    · rw [if_pos h2] at h; cases h
    rw [if_neg h2] at h
    by_cases h3 : zs.any (zn_bad (tot ps)) = true
    · rw [if_pos h3] at h; cases h
    rw [if_neg h3] at h
    by_cases h4 : 0 ≤ tr ∧ tr ≤ 100000000
    · by_cases h5 : 0 ≤ en ∧ en ≤ tot ps
      · by_cases h6 : 0 ≤ de ∧ de ≤ 20
        · refine ⟨by show 1 ≤ ps.length; omega, ⟨by show ps.length ≤ 60; omega, fun y hy => pk_ok.mp ?_⟩, by show zs.length ≤ 60; omega, fun z hz => zn_ok.mp ?_, h4.1, h4.2, h5.1, h5.2, h6.1, h6.2⟩
          · rw [Bool.eq_false_iff]; exact fun hb => h2 (List.any_eq_true.mpr ⟨y, hy, hb⟩)
          · rw [Bool.eq_false_iff]; exact fun hb => h3 (List.any_eq_true.mpr ⟨z, hz, hb⟩)
        · rw [if_neg (not_not_intro h4), if_neg (not_not_intro h5), if_pos h6] at h; cases h
      · rw [if_neg (not_not_intro h4), if_pos h5] at h; cases h
    · rw [if_pos h4] at h; cases h
  · intro h
    have hn1 := h.n1; have hn2 := h.gp.n60; have hn3 := h.z60
    simp only at hn1 hn2 hn3
    rw [if_neg (by omega), if_neg (any_no (fun y hy => pk_ok.mpr (h.gp.hp y hy))), if_neg (any_no (fun z hz => zn_ok.mpr (h.hz z hz))), if_neg (not_not_intro ⟨h.tr0, h.tr1⟩), if_neg (not_not_intro ⟨h.en0, h.en1⟩), if_neg (not_not_intro ⟨h.de0, h.de1⟩)]
theorem ev_sTotal_l0 (ps : List S49) (hg : GoodP ps) (d : Nat) : ∀ i s : Int, 0 ≤ i → i + d = ps.length → 0 ≤ s → s + tot (ps.drop i.toNat) ≤ 100000000 →
    Ev (fun k => spec_l2total.l0 k s ps ps.length i) (s + tot (ps.drop i.toNat)) := by
  induction d with
  | zero =>
    intro i s h0 h1 h2 h3
    refine Ev.step (fun k => by rw [spec_l2total.l0]) (neg_ (by omega) (now_ ?_))
    rw [drop_len ps i (by omega)]; simp [tot]
  | succ d ih =>
    intro i s h0 h1 h2 h3
    have hd := drop_cons_getD ps i z49 h0 (by omega)
    have hm := hg.hp _ (getD_mem' ps i z49 h0 (by omega))
    have hb := tot_bounds (ps.drop (i + 1).toNat) (fun y hy => hg.hp y (List.mem_of_mem_drop hy))
    rw [hd] at h3 ⊢
    simp only [tot] at h3 ⊢
    have hn := hg.n60
    refine Ev.step (fun k => by rw [spec_l2total.l0]) (pos_ (by omega) (pos_ h0 (pos_ (by omega) ?_)))
    rw [w64 (a := i + 1) (by omega) (by omega)]
    rw [show wrap64 (s + (rd_T49 ps i).f0) = s + (ps.getD i.toNat z49).f0 from w64 (by show _ ≤ s + (ps.getD i.toNat z49).f0; omega) (by show s + (ps.getD i.toNat z49).f0 ≤ _; omega)]
    refine cast_ ?_ (ih (i + 1) _ (by omega) (by omega) (by omega) (by omega))
    omega
theorem ev_sTotal {ps : List S49} (hg : GoodP ps) (zs : List S56) (tr en de : Int) : Ev (fun k => spec_l2total.f k ps zs tr en de) (tot ps) := by
  have h := ev_sTotal_l0 ps hg ps.length 0 0 (by omega) (by omega) (by omega) (by have := hg.tot; simp; omega)
  simp only [spec_l2total.f]
  refine cast_ ?_ h
  simp
section
variable (ps : List S49) (zs : List S56) (tr en de : Int)
theorem ev_sPOk_l1_bad (hg : GoodP ps) (hz60 : zs.length ≤ 60) (d : Nat) : ∀ i : Int, 0 ≤ i → i + d = zs.length → (∃ z ∈ zs.drop i.toNat, zn_bad (tot ps) z = true) →
    Ev (fun k => spec_ProfileOk.l1 k zs zs.length i ps zs tr en de) 3 := by
  induction d with
  | zero =>
    intro i h0 h1 h2
    rw [drop_len zs i (by omega)] at h2
    obtain ⟨z, hz, _⟩ := h2; cases hz
  | succ d ih =>
    intro i h0 h1 h2
    rw [drop_cons_getD zs i z56 h0 (by omega)] at h2
    refine Ev.step (fun k => by rw [spec_ProfileOk.l1]) (pos_ (by omega) (pos_ h0 (pos_ (by omega) ?_)))
    have e : rd_T56 zs i = zs.getD i.toNat z56 := rfl
    rw [e]
    generalize zs.getD i.toNat z56 = z at *
    refine Ev.bind (ev_sTotal hg zs tr en de) ?_
    by_cases c0 : 0 ≤ z.f0 ∧ z.f0 ≤ tot ps
    · refine bindc (l1in_t c0) (pos_ rfl (Ev.bind (ev_sTotal hg zs tr en de) ?_))
      by_cases c1 : z.f0 ≤ z.f1 ∧ z.f1 ≤ tot ps
      · refine bindc (l1in_t c1) (pos_ rfl ?_)
        by_cases c2 : 1 ≤ z.f2 ∧ z.f2 ≤ 10000
        · refine bindc (l1in_t c2) (pos_ rfl ?_)
          rw [w64 (a := i + 1) (by omega) (by omega)]
          refine ih (i + 1) (by omega) (by omega) ?_
          obtain ⟨z', hz', hb⟩ := h2
          rcases List.mem_cons.mp hz' with rfl | hz'
          · rw [zn_ok.mpr ⟨c0.1, c1.1, c1.2, c2⟩] at hb; cases hb
          · exact ⟨z', hz', hb⟩
        · exact bindc (l1in_f c2) (neg_ (by decide) (now_ rfl))
      · exact bindc (l1in_f c1) (neg_ (by decide) (now_ rfl))
    · exact bindc (l1in_f c0) (neg_ (by decide) (now_ rfl))
theorem ev_sPOk_l1_good (hg : GoodP ps) (hz60 : zs.length ≤ 60) (d : Nat) : ∀ i : Int, 0 ≤ i → i + d = zs.length → (∀ z ∈ zs.drop i.toNat, zn_bad (tot ps) z = false) →
    Ev (fun k => spec_ProfileOk.l1 k zs zs.length i ps zs tr en de) (if ¬ (0 ≤ tr ∧ tr ≤ 100000000) then 4 else if ¬ (0 ≤ en ∧ en ≤ tot ps) then 5 else if ¬ (0 ≤ de ∧ de ≤ 20) then 6 else 0) := by
  induction d with
  | zero =>
    intro i h0 h1 h2
    refine Ev.step (fun k => by rw [spec_ProfileOk.l1]) (neg_ (by omega) ?_)
    by_cases c0 : 0 ≤ tr ∧ tr ≤ 100000000
    · rw [if_neg (not_not_intro c0)]
      refine bindc (l1in_t c0) (pos_ rfl (Ev.bind (ev_sTotal hg zs tr en de) ?_))
      by_cases c1 : 0 ≤ en ∧ en ≤ tot ps
      · rw [if_neg (not_not_intro c1)]
        refine bindc (l1in_t c1) (pos_ rfl ?_)
        by_cases c2 : 0 ≤ de ∧ de ≤ 20
        · rw [if_neg (not_not_intro c2)]
          exact bindc (l1in_t c2) (pos_ rfl (now_ rfl))
        · rw [if_pos c2]
          exact bindc (l1in_f c2) (neg_ (by decide) (now_ rfl))
      · rw [if_pos c1]
        exact bindc (l1in_f c1) (neg_ (by decide) (now_ rfl))
    · rw [if_pos c0]
      exact bindc (l1in_f c0) (neg_ (by decide) (now_ rfl))
  | succ d ih =>
    intro i h0 h1 h2
    rw [drop_cons_getD zs i z56 h0 (by omega)] at h2
    refine Ev.step (fun k => by rw [spec_ProfileOk.l1]) (pos_ (by omega) (pos_ h0 (pos_ (by omega) ?_)))
    have hz := zn_ok.mp (h2 _ List.mem_cons_self)
    have e : rd_T56 zs i = zs.getD i.toNat z56 := rfl
    rw [e]
    generalize zs.getD i.toNat z56 = z at *
    refine Ev.bind (ev_sTotal hg zs tr en de) (bindc (l1in_t ⟨hz.1, by omega⟩) (pos_ rfl (Ev.bind (ev_sTotal hg zs tr en de) (bindc (l1in_t ⟨hz.2.1, hz.2.2.1⟩) (pos_ rfl (bindc (l1in_t hz.2.2.2) (pos_ rfl ?_)))))))
    rw [w64 (a := i + 1) (by omega) (by omega)]
    exact ih (i + 1) (by omega) (by omega) (fun z' hz' => h2 z' (List.mem_cons_of_mem _ hz'))
theorem ev_sPOk_l0_bad (hn : ps.length ≤ 60) (d : Nat) : ∀ i : Int, 0 ≤ i → i + d = ps.length → (∃ y ∈ ps.drop i.toNat, pk_bad y = true) →
    Ev (fun k => spec_ProfileOk.l0 k ps ps.length i ps zs tr en de) 2 := by
  induction d with
  | zero =>
    intro i h0 h1 h2
    rw [drop_len ps i (by omega)] at h2
    obtain ⟨z, hz, _⟩ := h2; cases hz
  | succ d ih =>
    intro i h0 h1 h2
    rw [drop_cons_getD ps i z49 h0 (by omega)] at h2
    refine Ev.step (fun k => by rw [spec_ProfileOk.l0]) (pos_ (by omega) (pos_ h0 (pos_ (by omega) ?_)))
    have e : rd_T49 ps i = ps.getD i.toNat z49 := rfl
    rw [e]
    generalize ps.getD i.toNat z49 = y at *
    by_cases c0 : 1 ≤ y.f0 ∧ y.f0 ≤ 1666666
    · refine bindc (l1in_t c0) (pos_ rfl ?_)
      by_cases c1 : 10 ≤ y.f1 ∧ y.f1 ≤ 1000
      · refine bindc (brakes_t c1) (pos_ rfl ?_)
        rw [w64 (a := i + 1) (by omega) (by omega)]
        refine ih (i + 1) (by omega) (by omega) ?_
        obtain ⟨y', hy', hb⟩ := h2
        rcases List.mem_cons.mp hy' with rfl | hy'
        · rw [pk_ok.mpr ⟨c0.1, c0.2, c1⟩] at hb; cases hb
        · exact ⟨y', hy', hb⟩
      · exact bindc (brakes_f c1) (neg_ (by decide) (now_ rfl))
    · exact bindc (l1in_f c0) (neg_ (by decide) (now_ rfl))
theorem ev_sPOk_l0_good (hn : ps.length ≤ 60) {R : Int} (hR : Ev (fun k => spec_ProfileOk.l1 k zs zs.length 0 ps zs tr en de) R) (d : Nat) : ∀ i : Int, 0 ≤ i → i + d = ps.length → (∀ y ∈ ps.drop i.toNat, pk_bad y = false) →
    Ev (fun k => spec_ProfileOk.l0 k ps ps.length i ps zs tr en de) R := by
  induction d with
  | zero =>
    intro i h0 h1 h2
    exact Ev.step (fun k => by rw [spec_ProfileOk.l0]) (neg_ (by omega) hR)
  | succ d ih =>
    intro i h0 h1 h2
    rw [drop_cons_getD ps i z49 h0 (by omega)] at h2
    refine Ev.step (fun k => by rw [spec_ProfileOk.l0]) (pos_ (by omega) (pos_ h0 (pos_ (by omega) ?_)))
    have hy := pk_ok.mp (h2 _ List.mem_cons_self)
    have e : rd_T49 ps i = ps.getD i.toNat z49 := rfl
    rw [e]
    generalize ps.getD i.toNat z49 = y at *
    refine bindc (l1in_t ⟨hy.1, hy.2.1⟩) (pos_ rfl (bindc (brakes_t hy.2.2) (pos_ rfl ?_)))
    rw [w64 (a := i + 1) (by omega) (by omega)]
    exact ih (i + 1) (by omega) (by omega) (fun z' hz' => h2 z' (List.mem_cons_of_mem _ hz'))
theorem ev_sPOk : Ev (fun k => spec_ProfileOk.f k ps zs tr en de) (pokV ps zs tr en de) := by
  have j1 : Ev (fun k => spec_ProfileOk.j0 k true ps zs tr en de) 1 := Ev.step (fun k => by rw [spec_ProfileOk.j0]) (pos_ rfl (now_ rfl))
  simp only [spec_ProfileOk.f]
  by_cases h1 : ps.length = 0 ∨ 60 < ps.length ∨ 60 < zs.length
  · rw [pok1 h1]
    by_cases c0 : (ps.length : Int) = 0
    · exact pos_ c0 j1
    refine neg_ c0 ?_
    by_cases c1 : (ps.length : Int) > 60
    · exact pos_ c1 j1
    refine neg_ c1 ?_
    rw [decide_eq_true (show (zs.length : Int) > 60 by omega)]
    exact j1
  · refine neg_ (by omega) (neg_ (by omega) ?_)
    rw [decide_eq_false (show ¬ (zs.length : Int) > 60 by omega)]
    refine Ev.step (fun k => by rw [spec_ProfileOk.j0]) (neg_ (by decide) ?_)
    by_cases h2 : ∃ y ∈ ps, pk_bad y = true
    · obtain ⟨y, hy, hb⟩ := h2
      rw [pok2 h1 hy hb]
      exact ev_sPOk_l0_bad ps zs tr en de (by omega) ps.length 0 (by omega) (by omega) ⟨y, by simpa using hy, hb⟩
    · have hp : ∀ y ∈ ps, pk_bad y = false := fun y hy => by rw [Bool.eq_false_iff]; exact fun hb => h2 ⟨y, hy, hb⟩
      have hg : GoodP ps := ⟨by omega, fun y hy => pk_ok.mp (hp y hy)⟩
      by_cases h3 : ∃ z ∈ zs, zn_bad (tot ps) z = true
      · obtain ⟨z, hz, hb⟩ := h3
        rw [pok3 h1 hp hz hb]
        exact ev_sPOk_l0_good ps zs tr en de (by omega) (ev_sPOk_l1_bad ps zs tr en de hg (by omega) zs.length 0 (by omega) (by omega) ⟨z, by simpa using hz, hb⟩) ps.length 0 (by omega) (by omega) (by simpa using hp)
      · have hz : ∀ z ∈ zs, zn_bad (tot ps) z = false := fun z hz => by rw [Bool.eq_false_iff]; exact fun hb => h3 ⟨z, hz, hb⟩
        rw [pokn h1 hp hz]
        exact ev_sPOk_l0_good ps zs tr en de (by omega) (ev_sPOk_l1_good ps zs tr en de hg (by omega) zs.length 0 (by omega) (by omega) (by simpa using hz)) ps.length 0 (by omega) (by omega) (by simpa using hp)
end
end Go.Proofs.YtanjbdgmnecacaaDoor.Pure
