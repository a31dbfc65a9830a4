/- What the printed functions on safety come to: 'Safe' of the program and of the reference are one plain function. Condition: the profile is right where a lemma says so. -/
import Derived.Test.YtgakkndbcilclaaPAx7
import Derived.Test.YtgakkndbcilclaaPAx25
import Derived.Test.YtgakkndbcilclaaPAx27
import Derived.Test.YtgakkndbcilclaaPAx30
import Derived.Test.YtgakkndbcilclaaPAx31
import Derived.Test.YtgakkndbcilclaaPAx33
import Derived.Test.YtgakkndbcilclaaPAx34
import Derived.Test.YtgakkndbcilclaaPrB
set_option linter.unusedVariables false
set_option linter.unusedSimpArgs false
namespace Go.Proofs.Ytgakkndbcilclaa.Pure
open Go.RowKit Go.Proofs.YtgakkndbcilclaaW.PrintWords Go.Proofs.YtgakkndbcilclaaW.PrintLast Go.Proofs.Ytgakkndbcilclaa.PA Go.Proofs.Ytgakkndbcilclaa.M
def PR.okB (P : PR) (x : Int) : Bool := decide (pokV P.ps P.zs P.tr P.en P.de = 0) && decide (0 ≤ x) && decide (x ≤ tot P.ps)
theorem okB_iff {P : PR} {x : Int} : P.okB x = true ↔ P.ok x := by
  unfold PR.okB PR.ok
  rw [Bool.and_eq_true, Bool.and_eq_true, decide_eq_true_eq, decide_eq_true_eq, decide_eq_true_eq, pok_zero, and_assoc]
def PR.sf (P : PR) (x v n : Int) : Bool := M.sf P.R P.O P.en P.de x v n
def PR.safe (P : PR) (x v : Int) : Bool := P.okB x && (decide (0 ≤ v) && decide (v ≤ 10000)) && P.sf x v 0
theorem mx_less {v b : Int} (h0 : -9223372036854775808 ≤ v - b) (h1 : v - b ≤ 9223372036854775807) : mx (wrap64 (v - b)) 0 = less v b := by
  rw [w64 h0 h1]; unfold mx less; split <;> split <;> omega
theorem speed_t {v : Int} (h : 0 ≤ v ∧ v ≤ 10000) : impl_speed.f v = some true := by
  unfold impl_speed.f; rw [if_pos (by omega)]; simp; omega
theorem speed_f {v : Int} (h : ¬ (0 ≤ v ∧ v ≤ 10000)) : impl_speed.f v = some false := by
  unfold impl_speed.f; split
  · simp; omega
  · rfl
theorem l2less_eq {v b : Int} (h0 : -9223372036854775808 ≤ v - b) (h1 : v - b ≤ 9223372036854775807) : spec_l2less.f v b = some (less v b) := by
  unfold spec_l2less.f less
  split
  · rfl
  · rw [w64 h0 h1]
section
variable {P : PR}
theorem ev_safe_l0 (hg : Good P) (d : Nat) : ∀ x v began kk : Int, (P.en - x).toNat = d → 0 ≤ x → x ≤ 200000000 → 0 ≤ began → began ≤ 200000000 → 1 ≤ v → v ≤ 10000 → 0 ≤ kk → kk + d ≤ 1000000000 → (P.de < kk → x ≤ P.en) →
    Ev (fun k => impl_safe.l0 k x v began kk P.ps P.zs P.tr P.en P.de) (P.sf x (if P.de < kk then less v (P.R began) else v) kk) := by
  induction d using Nat.strongRecOn with
  | _ d ih =>
    intro x v began kk hd h0 h1 h2 h3 h4 h5 h6 h7 h8
    have ht := hg.tot
    have he0 := hg.en0
    have he1 := hg.en1
    have hd0 := hg.de0
    have hd1 := hg.de1
    have hRb := hg.R began
    have hOb := hg.O
    -- one move more
    have go : ∀ m : Int, 1 ≤ m → m ≤ 10000 → x + m ≤ P.en → m ≤ P.O x (x + m) → Ev (fun k => impl_safe.l0 k (x + m) m x (kk + 1) P.ps P.zs P.tr P.en P.de) (P.sf x m kk) := by
      intro m m0 m1 m2 m3
      refine cast_ ?_ (ih (P.en - (x + m)).toNat (by omega) (x + m) m x (kk + 1) rfl (by omega) (by omega) h0 h1 m0 m1 (by omega) (by omega) (fun _ => m2))
      unfold PR.sf
      rw [sf_eq (x := x) (v := m) (by omega)]
      have hm : may P.O P.en x m = true := by
        unfold may; rw [if_neg (by omega), Bool.and_eq_true]; exact ⟨decide_eq_true m2, decide_eq_true m3⟩
      rw [hm, show decide (m = 0) = false from decide_eq_false (by omega), Bool.true_and, Bool.false_or]
      by_cases c : P.de ≤ kk
      · rw [if_pos c, if_pos (by omega)]
      · rw [if_neg c, if_neg (by omega)]
    have no1 : ∀ m : Int, 1 ≤ m → ¬ x + m ≤ P.en → P.sf x m kk = false := by
      intro m m0 m1
      unfold PR.sf; rw [sf_eq (by omega)]
      have : may P.O P.en x m = false := by unfold may; rw [if_neg (by omega), decide_eq_false m1]; rfl
      rw [this, Bool.false_and]
    have no2 : ∀ m : Int, 1 ≤ m → ¬ m ≤ P.O x (x + m) → P.sf x m kk = false := by
      intro m m0 m1
      unfold PR.sf; rw [sf_eq (by omega)]
      have : may P.O P.en x m = false := by unfold may; rw [if_neg (by omega), decide_eq_false m1, Bool.and_false]
      rw [this, Bool.false_and]
    refine Ev.step (fun k => by rw [impl_safe.l0]) ?_
    by_cases c : P.de < kk
    · refine pos_ c (Ev.bind (ev_brakeAt hg h2 (by omega)) ?_)
      rw [mx_less (by omega) (by omega), if_pos c]
      have l0 := less_nonneg v (P.R began)
      have l1 := less_le (v := v) (b := P.R began) (by omega) (by omega)
      generalize less v (P.R began) = m at *
      by_cases c0 : m = 0
      · refine pos_ c0 (now_ ?_)
        rw [c0]; unfold PR.sf; rw [sf_zero]; exact (decide_eq_true (h8 c)).symm
      · refine neg_ c0 ?_
        rw [w64 (a := x + m) (by omega) (by omega), w64 (a := kk + 1) (by omega) (by omega)]
        by_cases c1 : x + m ≤ P.en
        · refine neg_ (by omega) (Ev.bind (ev_touched hg x (x + m)) ?_)
          by_cases c2 : m ≤ P.O x (x + m)
          · exact neg_ (by omega) (go m (by omega) (by omega) c1 c2)
          · exact pos_ (by omega) (now_ (no2 m (by omega) c2).symm)
        · exact pos_ (by omega) (now_ (no1 m (by omega) c1).symm)
    · refine neg_ c ?_
      rw [if_neg c, w64 (a := x + v) (by omega) (by omega), w64 (a := kk + 1) (by omega) (by omega)]
      by_cases c1 : x + v ≤ P.en
      · refine neg_ (by omega) (Ev.bind (ev_touched hg x (x + v)) ?_)
        by_cases c2 : v ≤ P.O x (x + v)
        · exact neg_ (by omega) (go v h4 h5 c1 c2)
        · exact pos_ (by omega) (now_ (no2 v h4 c2).symm)
      · exact pos_ (by omega) (now_ (no1 v h4 c1).symm)
theorem ev_safe (hg : Good P) {x v : Int} (h0 : 0 ≤ x) (h1 : x ≤ 200000000) (h2 : 0 ≤ v) (h3 : v ≤ 10000) : Ev (fun k => impl_safe.f k P.ps P.zs P.tr P.en P.de x v) (P.sf x v 0) := by
  simp only [impl_safe.f]
  by_cases c : v = 0
  · refine pos_ c (now_ ?_)
    subst c; unfold PR.sf; rw [sf_zero]
  · refine neg_ c ?_
    have hd0 := hg.de0
    have he1 := hg.en1
    have ht := hg.tot
    refine cast_ ?_ (ev_safe_l0 hg (P.en - x).toNat x v x 0 rfl h0 h1 h0 h1 (by omega) h3 (by omega) (by omega) (fun z => by omega))
    rw [if_neg (by omega)]
theorem ev_l3may (hg : Good P) {x v : Int} (h0 : 0 ≤ x) (h1 : x ≤ 200000000) (h2 : 0 ≤ v) (h3 : v ≤ 10000) : Ev (fun k => spec_l3may.f k P.ps P.zs P.tr P.en P.de x v) (may P.O P.en x v) := by
  simp only [spec_l3may.f]
  unfold may
  by_cases c : v = 0
  · rw [if_pos c]; exact pos_ c (now_ rfl)
  · rw [if_neg c]; refine neg_ c ?_
    rw [w64 (a := x + v) (by omega) (by omega)]
    by_cases c1 : x + v ≤ P.en
    · refine pos_ c1 (Ev.bind (ev_l2over hg x (x + v)) (now_ ?_))
      rw [decide_eq_true c1, Bool.true_and]
    · refine neg_ c1 (now_ ?_)
      rw [decide_eq_false c1, Bool.false_and]
theorem ev_l3safe_l0 (hg : Good P) (d : Nat) : ∀ x v n : Int, (P.en - x).toNat = d → 0 ≤ x → x ≤ 200000000 → 0 ≤ v → v ≤ 10000 → 0 ≤ n → n + d ≤ 1000000000 →
    Ev (fun k => spec_l3safe.l0 k x v n P.ps P.zs P.tr P.en P.de) (P.sf x v n) := by
  induction d using Nat.strongRecOn with
  | _ d ih =>
    intro x v n hd h0 h1 h4 h5 h6 h7
    have ht := hg.tot
    have he0 := hg.en0
    have he1 := hg.en1
    have hRb := hg.R x
    refine Ev.step (fun k => by rw [spec_l3safe.l0]) (Ev.bind (ev_l3may hg h0 h1 h4 h5) ?_)
    by_cases cm : may P.O P.en x v = true
    · rw [cm]
      refine pos_ rfl ?_
      have hend := may_end h4 cm
      by_cases c0 : v = 0
      · refine pos_ c0 (now_ ?_)
        subst c0; unfold PR.sf; rw [sf_zero]; exact (decide_eq_true (by omega)).symm
      · refine neg_ c0 (Ev.bind (ev_l2rate hg h0 (by omega)) ?_)
        have e : P.sf x v n = P.sf (x + v) (if P.de ≤ n then less v (P.R x) else v) (n + 1) := by
          unfold PR.sf
          rw [sf_eq (x := x) (v := v) h4, cm, show decide (v = 0) = false from decide_eq_false c0, Bool.true_and, Bool.false_or]
        rw [e]
        have l0 := less_nonneg v (P.R x)
        have l1 := less_le (v := v) (b := P.R x) (by omega) (by omega)
        rw [w64 (a := x + v) (by omega) (by omega), w64 (a := n + 1) (by omega) (by omega)]
        by_cases c : P.de ≤ n
        · rw [if_pos c]
          refine pos_ c (bindc (l2less_eq (by omega) (by omega)) ?_)
          exact ih (P.en - (x + v)).toNat (by omega) (x + v) _ (n + 1) rfl (by omega) (by omega) l0 (by omega) (by omega) (by omega)
        · rw [if_neg c]
          refine neg_ c ?_
          exact ih (P.en - (x + v)).toNat (by omega) (x + v) _ (n + 1) rfl (by omega) (by omega) h4 h5 (by omega) (by omega)
    · rw [Bool.not_eq_true] at cm
      rw [cm]
      refine neg_ (by decide) (now_ ?_)
      unfold PR.sf; rw [sf_eq h4, cm, Bool.false_and]
theorem ev_l3safe (hg : Good P) {x v : Int} (h0 : 0 ≤ x) (h1 : x ≤ 200000000) (h2 : 0 ≤ v) (h3 : v ≤ 10000) : Ev (fun k => spec_l3safe.f k P.ps P.zs P.tr P.en P.de x v) (P.sf x v 0) := by
  simp only [spec_l3safe.f]
  have he1 := hg.en1
  have ht := hg.tot
  exact ev_l3safe_l0 hg (P.en - x).toNat x v 0 rfl h0 h1 h2 h3 (by omega) (by omega)
theorem ok_le {x : Int} (h : P.ok x) : x ≤ 200000000 := by
  have := h.2.2; have := h.1.tot; omega
theorem ev_l3good {x v : Int} : Ev (fun k => spec_l3good.f k P.ps P.zs P.tr P.en P.de x v) (P.okB x && (decide (0 ≤ v) && decide (v ≤ 10000))) := by
  simp only [spec_l3good.f]
  refine Ev.bind (ev_sPOk P.ps P.zs P.tr P.en P.de) ?_
  by_cases c : pokV P.ps P.zs P.tr P.en P.de = 0
  · have hg : Good P := (pok_zero ..).mp c
    refine pos_ c (Ev.bind (ev_sTotal hg.gp P.zs P.tr P.en P.de) ?_)
    by_cases c1 : 0 ≤ x ∧ x ≤ tot P.ps
    · refine bindc (l1in_t c1) (pos_ rfl ?_)
      have e : P.okB x = true := okB_iff.mpr ⟨hg, c1.1, c1.2⟩
      rw [e, Bool.true_and]
      by_cases c2 : 0 ≤ v ∧ v ≤ 10000
      · refine bindc (l1in_t c2) (now_ ?_)
        rw [decide_eq_true c2.1, decide_eq_true c2.2]; rfl
      · refine bindc (l1in_f c2) (now_ ?_)
        by_cases c3 : 0 ≤ v
        · rw [decide_eq_false (show ¬ v ≤ 10000 from fun z => c2 ⟨c3, z⟩), Bool.and_false]
        · rw [decide_eq_false c3, Bool.false_and]
    · refine bindc (l1in_f c1) (neg_ (by decide) (now_ ?_))
      have e : P.okB x = false := by rw [Bool.eq_false_iff]; exact fun z => c1 ⟨(okB_iff.mp z).2.1, (okB_iff.mp z).2.2⟩
      rw [e, Bool.false_and]
  · refine neg_ c (now_ ?_)
    have e : P.okB x = false := by unfold PR.okB; rw [decide_eq_false c]; rfl
    rw [e, Bool.false_and]
theorem ev_Safe (x v : Int) : Ev (fun k => impl_Safe.f k P.ps P.zs P.tr P.en P.de x v) (P.safe x v) := by
  simp only [impl_Safe.f]
  unfold PR.safe
  by_cases c : P.okB x = true
  · have ho := okB_iff.mp c
    refine Ev.bind (ev_right_t P ho) (pos_ rfl ?_)
    rw [c, Bool.true_and]
    by_cases c2 : 0 ≤ v ∧ v ≤ 10000
    · refine bindc (speed_t c2) (pos_ rfl (Ev.bind (ev_safe ho.1 ho.2.1 (ok_le ho) c2.1 c2.2) (now_ ?_)))
      rw [decide_eq_true c2.1, decide_eq_true c2.2]; rfl
    · refine bindc (speed_f c2) (neg_ (by decide) (now_ ?_))
      by_cases c3 : 0 ≤ v
      · rw [decide_eq_false (show ¬ v ≤ 10000 from fun z => c2 ⟨c3, z⟩), Bool.and_false, Bool.false_and]
      · rw [decide_eq_false c3, Bool.false_and, Bool.false_and]
  · refine Ev.bind (ev_right_f P (fun z => c (okB_iff.mpr z))) (neg_ (by decide) (now_ ?_))
    rw [Bool.not_eq_true] at c
    rw [c, Bool.false_and, Bool.false_and]
end
end Go.Proofs.Ytgakkndbcilclaa.Pure
