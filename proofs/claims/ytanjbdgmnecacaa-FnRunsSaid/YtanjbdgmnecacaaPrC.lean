/- What the printed functions on safety come to: 'Safe' of the program and of the reference are one plain function. Condition: the profile is right where a lemma says so. -/
import Derived.Test.YtanjbdgmnecacaaPRx4
import Derived.Test.YtanjbdgmnecacaaPRx9
import Derived.Test.YtanjbdgmnecacaaPRx13
import Derived.Test.YtanjbdgmnecacaaPRx17
import Derived.Test.YtanjbdgmnecacaaPRx18
import Derived.Test.YtanjbdgmnecacaaPrB
set_option linter.unusedVariables false
set_option linter.unusedSimpArgs false
namespace Go.Proofs.Ytanjbdgmnecacaa.Pure
open Go.RowKit Go.Proofs.YtanjbdgmnecacaaW.PrintWords Go.Proofs.YtanjbdgmnecacaaW.PrintLast Go.Proofs.Ytanjbdgmnecacaa.PR Go.Proofs.Ytanjbdgmnecacaa.M
def PR.okB (P : PR) (x : Int) : Bool := decide (pokV P.ps P.zs P.tr P.en P.de = 0) && decide (0 ≤ x) && decide (x ≤ tot P.ps)
theorem okB_iff {P : PR} {x : Int} : P.okB x = true ↔ P.ok x := by
  unfold PR.okB PR.ok
  rw [Bool.and_eq_true, Bool.and_eq_true, decide_eq_true_eq, decide_eq_true_eq, decide_eq_true_eq, pok_zero, and_assoc]
def PR.sf (P : PR) (x v n : Int) : Bool := M.sf P.R P.O P.en P.de x v n
def PR.safe (P : PR) (x v : Int) : Bool := P.okB x && (decide (0 ≤ v) && decide (v ≤ 10000)) && P.sf x v 0
theorem mx_less {v b : Int} (h0 : -9223372036854775808 ≤ v - b) (h1 : v - b ≤ 9223372036854775807) : mx (wrap64 (v - b)) 0 = less v b := by
  rw [w64 h0 h1]; unfold mx less; split <;> split <;> omega
theorem l2less_eq {v b : Int} (h0 : -9223372036854775808 ≤ v - b) (h1 : v - b ≤ 9223372036854775807) : spec_l2less.f v b = some (less v b) := by
  unfold spec_l2less.f less
  split
  · rfl
  · rw [w64 h0 h1]
section
variable {P : PR}
theorem ev_l3may (hg : Good P) {x v : Int} (h0 : 0 ≤ x) (h1 : x ≤ 200000000) (h2 : 0 ≤ v) (h3 : v ≤ 10000) : Ev (fun k => spec_l3may.f k P.ps P.zs P.tr P.en P.de x v) (may P.O P.en x v) := by
  simp only [spec_l3may.f]
  unfold may
  by_cases c : v = 0
  · rw [if_pos c]; exact pos_ c (now_ rfl)
  · rw [if_neg c]; refine neg_ c ?_
    rw [w64 (a := x + v) (by omega) (by omega)]
    by_cases c1 : x + v ≤ P.en
    · refine pos_ c1 (Ev.bind (ev_l2over hg x (x + v)) (now_ ?_))
      rw [decide_eq_true c1, Bool.true_and]
    · refine neg_ c1 (now_ ?_)
      rw [decide_eq_false c1, Bool.false_and]
theorem ev_l3safe_l0 (hg : Good P) (d : Nat) : ∀ x v n : Int, (P.en - x).toNat = d → 0 ≤ x → x ≤ 200000000 → 0 ≤ v → v ≤ 10000 → 0 ≤ n → n + d ≤ 1000000000 →
    Ev (fun k => spec_l3safe.l0 k x v n P.ps P.zs P.tr P.en P.de) (P.sf x v n) := by
  induction d using Nat.strongRecOn with
  | _ d ih =>
    intro x v n hd h0 h1 h4 h5 h6 h7
    have ht := hg.tot
    have he0 := hg.en0
    have he1 := hg.en1
    have hRb := hg.R x
    refine Ev.step (fun k => by rw [spec_l3safe.l0]) (Ev.bind (ev_l3may hg h0 h1 h4 h5) ?_)
    by_cases cm : may P.O P.en x v = true
    · rw [cm]
      refine pos_ rfl ?_
      have hend := may_end h4 cm
      by_cases c0 : v = 0
      · refine pos_ c0 (now_ ?_)
        subst c0; unfold PR.sf; rw [sf_zero]; exact (decide_eq_true (by omega)).symm
      · refine neg_ c0 (Ev.bind (ev_l2rate hg h0 (by omega)) ?_)
        have e : P.sf x v n = P.sf (x + v) (if P.de ≤ n then less v (P.R x) else v) (n + 1) := by
          unfold PR.sf
          rw [sf_eq (x := x) (v := v) h4, cm, show decide (v = 0) = false from decide_eq_false c0, Bool.true_and, Bool.false_or]
        rw [e]
        have l0 := less_nonneg v (P.R x)
        have l1 := less_le (v := v) (b := P.R x) (by omega) (by omega)
        rw [w64 (a := x + v) (by omega) (by omega), w64 (a := n + 1) (by omega) (by omega)]
        by_cases c : P.de ≤ n
        · rw [if_pos c]
          refine pos_ c (bindc (l2less_eq (by omega) (by omega)) ?_)
          exact ih (P.en - (x + v)).toNat (by omega) (x + v) _ (n + 1) rfl (by omega) (by omega) l0 (by omega) (by omega) (by omega)
        · rw [if_neg c]
          refine neg_ c ?_
          exact ih (P.en - (x + v)).toNat (by omega) (x + v) _ (n + 1) rfl (by omega) (by omega) h4 h5 (by omega) (by omega)
    · rw [Bool.not_eq_true] at cm
      rw [cm]
      refine neg_ (by decide) (now_ ?_)
      unfold PR.sf; rw [sf_eq h4, cm, Bool.false_and]
theorem ev_l3safe (hg : Good P) {x v : Int} (h0 : 0 ≤ x) (h1 : x ≤ 200000000) (h2 : 0 ≤ v) (h3 : v ≤ 10000) : Ev (fun k => spec_l3safe.f k P.ps P.zs P.tr P.en P.de x v) (P.sf x v 0) := by
  simp only [spec_l3safe.f]
  have he1 := hg.en1
  have ht := hg.tot
  exact ev_l3safe_l0 hg (P.en - x).toNat x v 0 rfl h0 h1 h2 h3 (by omega) (by omega)
theorem ok_le {x : Int} (h : P.ok x) : x ≤ 200000000 := by
  have := h.2.2; have := h.1.tot; omega
theorem ev_l3good {x v : Int} : Ev (fun k => spec_l3good.f k P.ps P.zs P.tr P.en P.de x v) (P.okB x && (decide (0 ≤ v) && decide (v ≤ 10000))) := by
  simp only [spec_l3good.f]
  refine Ev.bind (ev_sPOk P.ps P.zs P.tr P.en P.de) ?_
  by_cases c : pokV P.ps P.zs P.tr P.en P.de = 0
  · have hg : Good P := (pok_zero ..).mp c
    refine pos_ c (Ev.bind (ev_sTotal hg.gp P.zs P.tr P.en P.de) ?_)
    by_cases c1 : 0 ≤ x ∧ x ≤ tot P.ps
    · refine bindc (l1in_t c1) (pos_ rfl ?_)
      have e : P.okB x = true := okB_iff.mpr ⟨hg, c1.1, c1.2⟩
      rw [e, Bool.true_and]
      by_cases c2 : 0 ≤ v ∧ v ≤ 10000
      · refine bindc (l1in_t c2) (now_ ?_)
        rw [decide_eq_true c2.1, decide_eq_true c2.2]; rfl
      · refine bindc (l1in_f c2) (now_ ?_)
        by_cases c3 : 0 ≤ v
        · rw [decide_eq_false (show ¬ v ≤ 10000 from fun z => c2 ⟨c3, z⟩), Bool.and_false]
        · rw [decide_eq_false c3, Bool.false_and]
    · refine bindc (l1in_f c1) (neg_ (by decide) (now_ ?_))
      have e : P.okB x = false := by rw [Bool.eq_false_iff]; exact fun z => c1 ⟨(okB_iff.mp z).2.1, (okB_iff.mp z).2.2⟩
      rw [e, Bool.false_and]
  · refine neg_ c (now_ ?_)
    have e : P.okB x = false := by unfold PR.okB; rw [decide_eq_false c]; rfl
    rw [e, Bool.false_and]
end
end Go.Proofs.Ytanjbdgmnecacaa.Pure
