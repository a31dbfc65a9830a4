/- Watching: Watch of the program and of the reference are one plain function. No condition. -/
import Derived.Test.YtgakkndbcilclaaPAx7
import Derived.Test.YtgakkndbcilclaaPAx50
import Derived.Test.YtgakkndbcilclaaPAx51
import Derived.Test.YtgakkndbcilclaaPrC
set_option linter.unusedVariables false
set_option linter.unusedSimpArgs false
namespace Go.Proofs.Ytgakkndbcilclaa.Pure
open Go.RowKit Go.Proofs.YtgakkndbcilclaaW.PrintWords Go.Proofs.YtgakkndbcilclaaW.PrintLast Go.Proofs.Ytgakkndbcilclaa.PA Go.Proofs.Ytgakkndbcilclaa.M
section
variable {P : PR}
def PR.wrun (P : PR) (ws : List Int) (first : Bool) (v was n x : Int) : List Int × Int × Int := M.wrun P.R P.O P.en P.de ws first v was n x
def PR.watch (P : PR) (x v : Int) (ws : List Int) : Bool × List Int × Int × Int :=
  if ws.length ≤ 500 ∧ P.safe x v = true then (true, (P.wrun ws true v x 0 x).1, (P.wrun ws true v x 0 x).2.1, (P.wrun ws true v x 0 x).2.2) else (false, [], 0, 0)
theorem wok_t {x w : Int} : wok P.R P.O P.en P.de x w = true ↔ ((0 ≤ w ∧ w ≤ 10000) ∧ P.sf x w 0 = true) := by
  unfold wok PR.sf
  rw [Bool.and_eq_true, Bool.and_eq_true, decide_eq_true_eq, decide_eq_true_eq]
/-- one round's end -/
theorem res_cons {ok : Bool} {sp : List Int} {br : Int} {v b : Int} {r : List Int × Int × Int} {l : List Int × Int × Int} (h1 : l.1 = v :: r.1) (h2 : l.2.1 = b + r.2.1) (h3 : l.2.2 = r.2.2) :
    (ok, (sp ++ [v]) ++ r.1, (br + b) + r.2.1, r.2.2) = (ok, sp ++ l.1, br + l.2.1, l.2.2) := by
  rw [h1, h2, h3, List.append_assoc, Int.add_assoc]; rfl
theorem ev_Watch_l0 (hg : Good P) (ws : List Int) (hw : ws.length ≤ 500) (ok : Bool) (d : Nat) : ∀ i v began n x same br : Int, ∀ sp : List Int, 0 ≤ i → i + d = ws.length → 0 ≤ v → v ≤ 10000 → 0 ≤ began → began ≤ 150000000 → 0 ≤ n → n ≤ i → same = min n P.de →
    0 ≤ x → x + d * 10000 ≤ 150000000 → 0 ≤ br → br ≤ i → (sp.length : Int) = i →
    Ev (fun k => impl_Watch.l0 k v began same ws ws.length i P.ps P.zs P.tr P.en P.de ok sp br x)
      (ok, sp ++ (P.wrun (ws.drop i.toNat) (decide (i = 0)) v began n x).1, br + (P.wrun (ws.drop i.toNat) (decide (i = 0)) v began n x).2.1, (P.wrun (ws.drop i.toNat) (decide (i = 0)) v began n x).2.2) := by
  have hd0 := hg.de0
  have hd1 := hg.de1
  induction d with
  | zero =>
    intro i v began n x same br sp h0 h1 h2 h3 h4 h5 h6 h6' h7 h8 h9 h10 h11 h12
    refine Ev.step (fun k => by rw [impl_Watch.l0]) (neg_ (by omega) (now_ ?_))
    rw [drop_len ws i (by omega)]
    unfold PR.wrun; simp [M.wrun]
  | succ d ih =>
    intro i v began n x same br sp h0 h1 h2 h3 h4 h5 h6 h6' h7 h8 h9 h10 h11 h12
    have hRb := hg.R began
    refine Ev.step (fun k => by rw [impl_Watch.l0]) (pos_ (by omega) (pos_ h0 (pos_ (by omega) ?_)))
    rw [drop_cons_getD ws i 0 h0 (by omega)]
    have e : rd ws i = ws.getD i.toNat 0 := rfl
    rw [e]
    generalize ws.getD i.toNat 0 = w at *
    have hi1 : wrap64 (i + 1) = i + 1 := w64 (by omega) (by omega)
    have hbr : wrap64 (br + 1) = br + 1 := w64 (by omega) (by omega)
    have hdi : decide (i + 1 = 0) = false := decide_eq_false (by omega)
    by_cases c : wok P.R P.O P.en P.de x w = true
    · obtain ⟨cs, cf⟩ := wok_t.mp c
      refine bindc (speed_t cs) (pos_ rfl (Ev.bind (ev_safe hg h8 (by omega) cs.1 cs.2) ?_))
      rw [cf]
      refine Ev.step (fun k => by rw [impl_Watch.j2]) (pos_ rfl (pos_ (by omega) ?_))
      rw [hi1, w64 (a := x + w) (by omega) (by omega)]
      refine cast_ ?_ (ih (i + 1) w x 0 (x + w) 0 br (sp ++ [w]) (by omega) (by omega) cs.1 cs.2 h8 (by omega) (by omega) (by omega) (by omega) (by omega) (by omega) h10 (by omega) (by simp; omega))
      rw [hdi]
      have := res_cons (ok := ok) (sp := sp) (br := br) (v := w) (b := 0) (r := P.wrun (ws.drop (i + 1).toNat) false w x 0 (x + w)) (l := P.wrun (w :: ws.drop (i + 1).toNat) (decide (i = 0)) v began n x)
        (by unfold PR.wrun; simp only [M.wrun, if_pos c]) (by unfold PR.wrun; simp only [M.wrun, if_pos c]; omega) (by unfold PR.wrun; simp only [M.wrun, if_pos c])
      rw [Int.add_zero] at this
      exact this
    · have nj : Ev (fun k => impl_Watch.j2 k v began same i w ws ws.length i false P.ps P.zs P.tr P.en P.de ok sp br x)
          (ok, sp ++ (P.wrun (w :: ws.drop (i + 1).toNat) (decide (i = 0)) v began n x).1, br + (P.wrun (w :: ws.drop (i + 1).toNat) (decide (i = 0)) v began n x).2.1, (P.wrun (w :: ws.drop (i + 1).toNat) (decide (i = 0)) v began n x).2.2) := by
        refine Ev.step (fun k => by rw [impl_Watch.j2]) (neg_ (by decide) ?_)
        by_cases ci : i = 0
        · refine pos_ ci (pos_ (by omega) ?_)
          rw [hi1, hbr, w64 (a := x + v) (by omega) (by omega)]
          refine cast_ ?_ (ih (i + 1) v x n (x + v) 0 (br + 1) (sp ++ [v]) (by omega) (by omega) h2 h3 h8 (by omega) h6 (by omega) (by omega) (by omega) (by omega) (by omega) (by omega) (by simp; omega))
          rw [hdi, decide_eq_true ci]
          exact res_cons (by unfold PR.wrun; simp only [M.wrun, if_neg c, if_pos]) (by unfold PR.wrun; simp only [M.wrun, if_neg c, if_pos]) (by unfold PR.wrun; simp only [M.wrun, if_neg c, if_pos])
        · refine neg_ ci ?_
          by_cases cn : P.de ≤ n
          · refine neg_ (by omega) (Ev.bind (ev_brakeAt hg h4 (by omega)) ?_)
            rw [mx_less (by omega) (by omega)]
            have l0 := less_nonneg v (P.R began)
            have l1 := less_le (v := v) (b := P.R began) (by omega) (by omega)
            refine pos_ (by omega) ?_
            rw [hi1, hbr, w64 (a := x + less v (P.R began)) (by omega) (by omega)]
            refine cast_ ?_ (ih (i + 1) (less v (P.R began)) x (n + 1) (x + less v (P.R began)) same (br + 1) (sp ++ [less v (P.R began)]) (by omega) (by omega) l0 (by omega) h8 (by omega) (by omega) (by omega) (by omega) (by omega) (by omega) (by omega) (by omega) (by simp; omega))
            rw [hdi, decide_eq_false ci]
            exact res_cons (by unfold PR.wrun; simp only [M.wrun, if_neg c, if_pos cn]; simp) (by unfold PR.wrun; simp only [M.wrun, if_neg c, if_pos cn]; simp) (by unfold PR.wrun; simp only [M.wrun, if_neg c, if_pos cn]; simp)
          · refine pos_ (by omega) (pos_ (by omega) ?_)
            rw [hi1, hbr, w64 (a := x + v) (by omega) (by omega), w64 (a := same + 1) (by omega) (by omega)]
            refine cast_ ?_ (ih (i + 1) v x (n + 1) (x + v) (same + 1) (br + 1) (sp ++ [v]) (by omega) (by omega) h2 h3 h8 (by omega) (by omega) (by omega) (by omega) (by omega) (by omega) (by omega) (by omega) (by simp; omega))
            rw [hdi, decide_eq_false ci]
            exact res_cons (by unfold PR.wrun; simp only [M.wrun, if_neg c, if_neg cn]; simp) (by unfold PR.wrun; simp only [M.wrun, if_neg c, if_neg cn]; simp) (by unfold PR.wrun; simp only [M.wrun, if_neg c, if_neg cn]; simp)
      by_cases cs : 0 ≤ w ∧ w ≤ 10000
      · refine bindc (speed_t cs) (pos_ rfl (Ev.bind (ev_safe hg h8 (by omega) cs.1 cs.2) ?_))
        have cf : P.sf x w 0 = false := by rw [Bool.eq_false_iff]; exact fun z => c (wok_t.mpr ⟨cs, z⟩)
        rw [cf]
        exact nj
      · exact bindc (speed_f cs) (neg_ (by decide) nj)
theorem ev_Watch (x v : Int) (ws : List Int) : Ev (fun k => impl_Watch.f k P.ps P.zs P.tr P.en P.de x v ws) (P.watch x v ws) := by
  have bad : Ev (fun k => impl_Watch.j0 k x v ws true P.ps P.zs P.tr P.en P.de) (false, [], 0, 0) := Ev.step (fun k => by rw [impl_Watch.j0]) (pos_ rfl (now_ rfl))
  simp only [impl_Watch.f]
  unfold PR.watch
  by_cases c : (ws.length : Int) > 500
  · rw [if_neg (by omega)]; exact pos_ c bad
  refine neg_ c (Ev.bind (ev_Safe x v) ?_)
  by_cases c2 : P.safe x v = true
  · rw [if_pos ⟨by omega, c2⟩, c2]
    refine Ev.step (fun k => by rw [impl_Watch.j0]) (neg_ (by decide) ?_)
    unfold PR.safe at c2
    rw [Bool.and_eq_true, Bool.and_eq_true, Bool.and_eq_true] at c2
    have ho := okB_iff.mp c2.1.1
    have v0 := of_decide_eq_true c2.1.2.1
    have v1 := of_decide_eq_true c2.1.2.2
    have ht := ho.1.tot
    have hx := ho.2.2
    refine cast_ ?_ (ev_Watch_l0 ho.1 ws (by omega) true ws.length 0 v x 0 x 0 0 [] (by omega) (by omega) v0 v1 ho.2.1 (by omega) (by omega) (by omega) (by have := ho.1.de0; omega) ho.2.1 (by omega) (by omega) (by omega) (by simp))
    simp
  · rw [if_neg (fun z => c2 z.2)]
    rw [Bool.not_eq_true] at c2
    rw [c2]
    exact bad
theorem ev_sWatch_l0 (hg : Good P) (ws : List Int) (hw : ws.length ≤ 500) (ok : Bool) (at0 : Int) (d : Nat) : ∀ i v began n x br : Int, ∀ sp : List Int, 0 ≤ i → i + d = ws.length → 0 ≤ v → v ≤ 10000 → 0 ≤ began → began ≤ 150000000 → 0 ≤ n → n ≤ i →
    0 ≤ x → x + d * 10000 ≤ 150000000 → 0 ≤ br → br ≤ i → (sp.length : Int) = i →
    Ev (fun k => spec_Watch.l0 k x v began n ws ws.length i P.ps P.zs P.tr P.en P.de ok sp br at0)
      (ok, sp ++ (P.wrun (ws.drop i.toNat) (decide (i = 0)) v began n x).1, br + (P.wrun (ws.drop i.toNat) (decide (i = 0)) v began n x).2.1, (P.wrun (ws.drop i.toNat) (decide (i = 0)) v began n x).2.2) := by
  have hd0 := hg.de0
  have hd1 := hg.de1
  induction d with
  | zero =>
    intro i v began n x br sp h0 h1 h2 h3 h4 h5 h6 h6' h8 h9 h10 h11 h12
    refine Ev.step (fun k => by rw [spec_Watch.l0]) (neg_ (by omega) (now_ ?_))
    rw [drop_len ws i (by omega)]
    unfold PR.wrun; simp [M.wrun]
  | succ d ih =>
    intro i v began n x br sp h0 h1 h2 h3 h4 h5 h6 h6' h8 h9 h10 h11 h12
    have hRb := hg.R began
    refine Ev.step (fun k => by rw [spec_Watch.l0]) (pos_ (by omega) (pos_ h0 (pos_ (by omega) ?_)))
    rw [drop_cons_getD ws i 0 h0 (by omega)]
    have e : rd ws i = ws.getD i.toNat 0 := rfl
    rw [e]
    generalize ws.getD i.toNat 0 = w at *
    have hi1 : wrap64 (i + 1) = i + 1 := w64 (by omega) (by omega)
    have hbr : wrap64 (br + 1) = br + 1 := w64 (by omega) (by omega)
    have hdi : decide (i + 1 = 0) = false := decide_eq_false (by omega)
    by_cases c : wok P.R P.O P.en P.de x w = true
    · obtain ⟨cs, cf⟩ := wok_t.mp c
      refine pos_ cs.1 (pos_ cs.2 (Ev.bind (ev_l3safe hg h8 (by omega) cs.1 cs.2) ?_))
      rw [cf]
      refine Ev.step (fun k => by rw [spec_Watch.j2]) (pos_ rfl (pos_ (by omega) ?_))
      rw [hi1, w64 (a := x + w) (by omega) (by omega)]
      refine cast_ ?_ (ih (i + 1) w x 0 (x + w) br (sp ++ [w]) (by omega) (by omega) cs.1 cs.2 h8 (by omega) (by omega) (by omega) (by omega) (by omega) h10 (by omega) (by simp; omega))
      rw [hdi]
      have := res_cons (ok := ok) (sp := sp) (br := br) (v := w) (b := 0) (r := P.wrun (ws.drop (i + 1).toNat) false w x 0 (x + w)) (l := P.wrun (w :: ws.drop (i + 1).toNat) (decide (i = 0)) v began n x)
        (by unfold PR.wrun; simp only [M.wrun, if_pos c]) (by unfold PR.wrun; simp only [M.wrun, if_pos c]; omega) (by unfold PR.wrun; simp only [M.wrun, if_pos c])
      rw [Int.add_zero] at this
      exact this
    · have nj : Ev (fun k => spec_Watch.j2 k x v began n i w ws ws.length i false P.ps P.zs P.tr P.en P.de ok sp br at0)
          (ok, sp ++ (P.wrun (w :: ws.drop (i + 1).toNat) (decide (i = 0)) v began n x).1, br + (P.wrun (w :: ws.drop (i + 1).toNat) (decide (i = 0)) v began n x).2.1, (P.wrun (w :: ws.drop (i + 1).toNat) (decide (i = 0)) v began n x).2.2) := by
        refine Ev.step (fun k => by rw [spec_Watch.j2]) (neg_ (by decide) ?_)
        by_cases ci : i = 0
        · refine neg_ (by omega) (pos_ (by omega) ?_)
          rw [hi1, hbr, w64 (a := x + v) (by omega) (by omega)]
          refine cast_ ?_ (ih (i + 1) v x n (x + v) (br + 1) (sp ++ [v]) (by omega) (by omega) h2 h3 h8 (by omega) h6 (by omega) (by omega) (by omega) (by omega) (by omega) (by simp; omega))
          rw [hdi, decide_eq_true ci]
          exact res_cons (by unfold PR.wrun; simp only [M.wrun, if_neg c, if_pos]) (by unfold PR.wrun; simp only [M.wrun, if_neg c, if_pos]) (by unfold PR.wrun; simp only [M.wrun, if_neg c, if_pos])
        · refine pos_ (by omega) ?_
          rw [w64 (a := n + 1) (by omega) (by omega)]
          by_cases cn : P.de ≤ n
          · refine pos_ cn (Ev.bind (ev_l2rate hg h4 (by omega)) (bindc (l2less_eq (by omega) (by omega)) ?_))
            have l0 := less_nonneg v (P.R began)
            have l1 := less_le (v := v) (b := P.R began) (by omega) (by omega)
            refine pos_ (by omega) ?_
            rw [hi1, hbr, w64 (a := x + less v (P.R began)) (by omega) (by omega)]
            refine cast_ ?_ (ih (i + 1) (less v (P.R began)) x (n + 1) (x + less v (P.R began)) (br + 1) (sp ++ [less v (P.R began)]) (by omega) (by omega) l0 (by omega) h8 (by omega) (by omega) (by omega) (by omega) (by omega) (by omega) (by omega) (by simp; omega))
            rw [hdi, decide_eq_false ci]
            exact res_cons (by unfold PR.wrun; simp only [M.wrun, if_neg c, if_pos cn]; simp) (by unfold PR.wrun; simp only [M.wrun, if_neg c, if_pos cn]; simp) (by unfold PR.wrun; simp only [M.wrun, if_neg c, if_pos cn]; simp)
          · refine neg_ cn (pos_ (by omega) ?_)
            rw [hi1, hbr, w64 (a := x + v) (by omega) (by omega)]
            refine cast_ ?_ (ih (i + 1) v x (n + 1) (x + v) (br + 1) (sp ++ [v]) (by omega) (by omega) h2 h3 h8 (by omega) (by omega) (by omega) (by omega) (by omega) (by omega) (by omega) (by simp; omega))
            rw [hdi, decide_eq_false ci]
            exact res_cons (by unfold PR.wrun; simp only [M.wrun, if_neg c, if_neg cn]; simp) (by unfold PR.wrun; simp only [M.wrun, if_neg c, if_neg cn]; simp) (by unfold PR.wrun; simp only [M.wrun, if_neg c, if_neg cn]; simp)
      by_cases c0 : w ≥ 0
      · refine pos_ c0 ?_
        by_cases c1 : w ≤ 10000
        · refine pos_ c1 (Ev.bind (ev_l3safe hg h8 (by omega) c0 c1) ?_)
          have cf : P.sf x w 0 = false := by rw [Bool.eq_false_iff]; exact fun z => c (wok_t.mpr ⟨⟨c0, c1⟩, z⟩)
          rw [cf]
          exact nj
        · exact neg_ c1 nj
      · exact neg_ c0 nj
theorem ev_sWatch (x v : Int) (ws : List Int) : Ev (fun k => spec_Watch.f k P.ps P.zs P.tr P.en P.de x v ws) (P.watch x v ws) := by
  have bad : Ev (fun k => spec_Watch.j0 k x v ws true P.ps P.zs P.tr P.en P.de) (false, [], 0, 0) := Ev.step (fun k => by rw [spec_Watch.j0]) (pos_ rfl (now_ rfl))
  simp only [spec_Watch.f]
  unfold PR.watch
  by_cases c : (ws.length : Int) > 500
  · rw [if_neg (by omega)]; exact pos_ c bad
  refine neg_ c (Ev.bind ev_l3good ?_)
  by_cases c1 : (P.okB x && (decide (0 ≤ v) && decide (v ≤ 10000))) = true
  · rw [c1]
    refine pos_ rfl ?_
    have c1' := c1
    rw [Bool.and_eq_true, Bool.and_eq_true] at c1'
    have ho := okB_iff.mp c1'.1
    have v0 := of_decide_eq_true c1'.2.1
    have v1 := of_decide_eq_true c1'.2.2
    refine Ev.bind (ev_l3safe ho.1 ho.2.1 (ok_le ho) v0 v1) ?_
    by_cases c2 : P.sf x v 0 = true
    · rw [if_pos ⟨by omega, by unfold PR.safe; rw [c1, c2]; rfl⟩, c2]
      refine Ev.step (fun k => by rw [spec_Watch.j0]) (neg_ (by decide) ?_)
      have ht := ho.1.tot
      have hx := ho.2.2
      refine cast_ ?_ (ev_sWatch_l0 ho.1 ws (by omega) true 0 ws.length 0 v x 0 x 0 [] (by omega) (by omega) v0 v1 ho.2.1 (by omega) (by omega) (by omega) ho.2.1 (by omega) (by omega) (by omega) (by simp))
      simp
    · rw [Bool.not_eq_true] at c2
      rw [if_neg (fun z => by have := z.2; unfold PR.safe at this; rw [c2, Bool.and_false] at this; cases this), c2]
      exact bad
  · rw [Bool.not_eq_true] at c1
    rw [c1, if_neg (fun z => by have := z.2; unfold PR.safe at this; rw [c1, Bool.false_and] at this; cases this)]
    exact neg_ (by decide) bad
end
end Go.Proofs.Ytgakkndbcilclaa.Pure
