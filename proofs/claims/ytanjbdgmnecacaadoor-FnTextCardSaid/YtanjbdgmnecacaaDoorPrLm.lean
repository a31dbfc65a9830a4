/- What the printed functions of reading come to: match, num, must. Condition: the text is no longer than the program takes. -/
import Derived.Test.YtanjbdgmnecacaaDoorPTx19
import Derived.Test.YtanjbdgmnecacaaDoorPTx24
import Derived.Test.YtanjbdgmnecacaaDoorPTx25
import Derived.Test.YtanjbdgmnecacaaDoorPrL
set_option linter.unusedVariables false
set_option linter.unusedSimpArgs false
namespace Go.Proofs.YtanjbdgmnecacaaDoor.Pure
open Go.RowKit Go.Proofs.YtanjbdgmnecacaaDoorW.PrintWords Go.Proofs.YtanjbdgmnecacaaDoorW.PrintLast Go.Proofs.YtanjbdgmnecacaaDoor.PT Go.Proofs.YtanjbdgmnecacaaDoor.M
section
variable {t F : ByteArray}
theorem ev_match_l1 {i : Int} {ns : List Int} {R : List Int × Int × Bool} (hi : 0 ≤ i) (hi2 : i ≤ 1000) (hns : ns.length ≤ 1000) (ht : t.size ≤ 3000) (f : Nat) : ∀ (m : Nat) (p n : Int), 0 ≤ p → p ≤ t.size → 0 ≤ n → (n + 1) * 10 ^ m ≤ 1000000000 → m ≤ 9 → m < f →
    ((numA t f p n (9 - m)).2.2 ≠ 0 → Ev (fun k => impl_match.l0 k t (numA t f p n (9 - m)).2.1 F (ns ++ [(numA t f p n (9 - m)).1]) (i + 1)) R) →
    Ev (fun k => impl_match.l1 k t p F ns i n (9 - m)) (if (numA t f p n (9 - m)).2.2 = 0 then (ns, (numA t f p n (9 - m)).2.1, false) else R) := by
  induction f with
  | zero => intro m p n _ _ _ _ _ h; omega
  | succ f ih =>
    intro m p n h0 h1 h2 h3 h4 h5 hR
    have hb := bt_bounds t p
    have stop : (¬ ((p < t.size ∧ 48 ≤ bt t p ∧ bt t p ≤ 57) ∧ (9 - (m : Int)) < 9 ∧ ¬ ((9 - (m : Int)) = 1 ∧ n = 0))) →
        Ev (fun k => if (9 - (m : Int)) = 0 then some (ns, p, false) else (if ns.length < 17592186044416 then impl_match.l0 k t p F (ns ++ [n]) (wrap64 (i + 1)) else none)) (if (numA t (f + 1) p n (9 - m)).2.2 = 0 then (ns, (numA t (f + 1) p n (9 - m)).2.1, false) else R) := by
      intro hc
      have e : numA t (f + 1) p n (9 - m) = (n, p, 9 - (m : Int)) := by simp only [numA]; rw [if_neg hc]
      rw [e] at hR ⊢
      simp only at hR ⊢
      by_cases c : (9 - (m : Int)) = 0
      · rw [if_pos c]; exact pos_ c (now_ rfl)
      · rw [if_neg c, w64 (a := i + 1) (by omega) (by omega)]
        exact neg_ c (pos_ (by omega) (hR c))
    refine Ev.step (fun k => by rw [impl_match.l1]) ?_
    by_cases c1 : p < t.size
    · refine pos_ c1 (pos_ h0 ?_)
      by_cases c2 : bt t p ≥ 48
      · refine pos_ c2 ?_
        by_cases c3 : bt t p ≤ 57
        · refine pos_ c3 ?_
          by_cases c4 : (9 - (m : Int)) < 9
          · refine pos_ c4 ?_
            obtain ⟨m', rfl⟩ : ∃ m', m = m' + 1 := ⟨m - 1, by omega⟩
            have hp : (0 : Int) < 10 ^ m' := Int.pow_pos (by decide)
            have hn : n ≤ 100000000 := by
              have : (n + 1) * 1 ≤ (n + 1) * 10 ^ m' := Int.mul_le_mul_of_nonneg_left (by omega) (by omega)
              rw [Int.pow_succ] at h3
              have e : (n + 1) * (10 ^ m' * 10) = 10 * ((n + 1) * 10 ^ m') := by grind
              omega
            have go : ¬ ((9 - ((m' + 1 : Nat) : Int)) = 1 ∧ n = 0) → Ev (fun k => impl_match.l1 k t (wrap64 (p + 1)) F ns i (wrap64 ((wrap64 (10 * n)) + (((bt t p) - 48) % 256))) (wrap64 ((9 - ((m' + 1 : Nat) : Int)) + 1))) (if (numA t (f + 1) p n (9 - ((m' + 1 : Nat) : Int))).2.2 = 0 then (ns, (numA t (f + 1) p n (9 - ((m' + 1 : Nat) : Int))).2.1, false) else R) := by
              intro hz
              have e : numA t (f + 1) p n (9 - ((m' + 1 : Nat) : Int)) = numA t f (p + 1) (10 * n + (bt t p - 48)) (9 - (m' : Int)) := by
                simp only [numA]; rw [if_pos ⟨⟨c1, by omega, c3⟩, c4, hz⟩]
                rw [show (9 : Int) - ((m' + 1 : Nat) : Int) + 1 = 9 - (m' : Int) by omega]
              rw [e] at hR ⊢
              rw [Int.emod_eq_of_lt (a := bt t p - 48) (by omega) (by omega), w64 (a := 10 * n) (by omega) (by omega), w64 (a := 10 * n + (bt t p - 48)) (by omega) (by omega), w64 (a := p + 1) (by omega) (by omega), w64 (a := 9 - ((m' + 1 : Nat) : Int) + 1) (by omega) (by omega), show (9 : Int) - ((m' + 1 : Nat) : Int) + 1 = 9 - (m' : Int) by omega]
              refine ih m' (p + 1) (10 * n + (bt t p - 48)) (by omega) (by omega) (by omega) ?_ (by omega) (by omega) hR
              have h6 : (10 * n + (bt t p - 48) + 1) * 10 ^ m' ≤ (10 * (n + 1)) * 10 ^ m' := Int.mul_le_mul_of_nonneg_right (by omega) (by omega)
              rw [Int.pow_succ] at h3
              have e2 : (n + 1) * (10 ^ m' * 10) = (10 * (n + 1)) * 10 ^ m' := by grind
              omega
            by_cases c5 : (9 - ((m' + 1 : Nat) : Int)) = 1
            · refine pos_ c5 ?_
              by_cases c6 : n = 0
              · exact pos_ c6 (stop (fun z => z.2.2 ⟨c5, c6⟩))
              · exact neg_ c6 (go (fun z => c6 z.2))
            · exact neg_ c5 (go (fun z => c5 z.1))
          · exact neg_ c4 (stop (fun z => c4 z.2.1))
        · exact neg_ c3 (stop (fun z => c3 z.1.2.2))
      · exact neg_ c2 (stop (fun z => c2 z.1.2.1))
    · exact neg_ c1 (stop (fun z => c1 z.1.1))
theorem ev_match_l0 (ht : t.size ≤ 3000) (hF : F.size ≤ 100) (d : Nat) : ∀ (i : Nat) (p : Int) (ns : List Int), i + d = F.size → 0 ≤ p → p ≤ t.size → ns.length ≤ i → Ev (fun k => impl_match.l0 k t p F ns i) (mtc t F d i p ns) := by
  induction d with
  | zero =>
    intro i p ns hi h0 h1 h2
    refine Ev.step (fun k => by rw [impl_match.l0]) (neg_ (by omega) (now_ ?_)); rfl
  | succ d ih =>
    intro i p ns hi h0 h1 h2
    simp only [mtc]
    refine Ev.step (fun k => by rw [impl_match.l0]) (pos_ (by omega) (pos_ (by omega) ?_))
    by_cases c : bt F i = 35
    · rw [if_pos c]
      refine pos_ c ?_
      have hn := num_spec h1
      refine cast_ rfl (ev_match_l1 (i := i) (ns := ns) (by omega) (by omega) (by omega) ht 10 9 p 0 h0 h1 (by omega) (by decide) (by omega) (by omega) (fun hc => ?_))
      exact ih (i + 1) (num t p).2.1 (ns ++ [(num t p).1]) (by omega) (by omega) hn.2.1 (by simp; omega)
    · rw [if_neg c]
      refine neg_ c ?_
      by_cases c1 : p = t.size
      · rw [if_neg (fun z => by omega)]; exact pos_ c1 (now_ rfl)
      · refine neg_ c1 (pos_ h0 (pos_ (by omega) ?_))
        by_cases c2 : bt t p = bt F i
        · rw [if_pos ⟨by omega, c2⟩, w64 (a := p + 1) (by omega) (by omega), w64 (a := (i : Int) + 1) (by omega) (by omega)]
          exact pos_ c2 (ih (i + 1) (p + 1) ns (by omega) (by omega) (by omega) (by omega))
        · rw [if_neg (fun z => c2 z.2)]; exact neg_ c2 (now_ rfl)
theorem ev_match (ht : t.size ≤ 3000) (hF : F.size ≤ 100) {p : Int} (h0 : 0 ≤ p) (h1 : p ≤ t.size) : Ev (fun k => impl_match.f k t p F) (mtc t F F.size 0 p []) := by
  simp only [impl_match.f]
  exact ev_match_l0 ht hF F.size 0 p [] (by omega) h0 h1 (by simp)
/-! ### the reference: a number -/
def dig (t : ByteArray) (p : Int) : Prop := p < t.size ∧ 48 ≤ bt t p ∧ bt t p ≤ 57
instance (t : ByteArray) (p : Int) : Decidable (dig t p) := by unfold dig; exact inferInstance
/-- value, place, fault (-1: none) -/
def numE (t : ByteArray) (r : Int × Int × Int) : Int × Int × Int := if dig t r.2.1 then (0, r.2.1, r.2.1) else if r.2.2 = 0 then (r.1, r.2.1, r.2.1) else (r.1, r.2.1, -1)
theorem ev_num_l0 {q0 : Int} (ht : t.size ≤ 3000) (f : Nat) : ∀ (m : Nat) (p n : Int), 0 ≤ q0 → p ≤ t.size → 0 ≤ n → (n + 1) * 10 ^ m ≤ 1000000000 → m ≤ 9 → m < f → p = q0 + (9 - m) → (m < 8 → 1 ≤ n) →
    Ev (fun k => spec_l5R_num.l0 k n q0 t p (-1)) ((numE t (numA t f p n (9 - m))).1, t, (numE t (numA t f p n (9 - m))).2.1, (numE t (numA t f p n (9 - m))).2.2) := by
  induction f with
  | zero => intro m p n _ _ _ _ _ h; omega
  | succ f ih =>
    intro m p n hq h1 h2 h3 h4 h5 hp hz
    have hb := bt_bounds t p
    have h0 : 0 ≤ p := by omega
    -- no digit stands there
    have out : ¬ dig t p → Ev (fun k => spec_l5R_num.j1 k n q0 false t p (-1)) ((numE t (numA t (f + 1) p n (9 - m))).1, t, (numE t (numA t (f + 1) p n (9 - m))).2.1, (numE t (numA t (f + 1) p n (9 - m))).2.2) := by
      intro hd
      have e : numA t (f + 1) p n (9 - m) = (n, p, 9 - (m : Int)) := by simp only [numA]; rw [if_neg (fun z => hd z.1)]
      rw [e]
      unfold numE
      simp only
      rw [if_neg hd]
      refine Ev.step (fun k => by rw [spec_l5R_num.j1]) (neg_ (by decide) (pos_ (by decide) ?_))
      by_cases c : p = q0
      · refine pos_ c (now_ ?_); simp only [if_pos (show (9 - (m : Int)) = 0 by omega)]
      · refine neg_ c (now_ ?_); simp only [if_neg (show ¬ (9 - (m : Int)) = 0 by omega)]
    refine Ev.step (fun k => by rw [spec_l5R_num.l0]) (pos_ (by decide) ?_)
    by_cases c1 : p < t.size
    · refine pos_ c1 (pos_ h0 ?_)
      by_cases c2 : bt t p ≥ 48
      · refine pos_ c2 ?_
        by_cases c3 : bt t p ≤ 57
        · rw [decide_eq_true c3]
          have hd : dig t p := ⟨c1, by omega, c3⟩
          refine Ev.step (fun k => by rw [spec_l5R_num.j1]) (pos_ rfl ?_)
          rw [w64 (a := p - q0) (by omega) (by omega)]
          have stop : (¬ ((9 - (m : Int)) < 9 ∧ ¬ ((9 - (m : Int)) = 1 ∧ n = 0))) → numE t (numA t (f + 1) p n (9 - m)) = (0, p, p) := by
            intro hc
            have e : numA t (f + 1) p n (9 - m) = (n, p, 9 - (m : Int)) := by simp only [numA]; rw [if_neg (fun z => hc z.2)]
            rw [e]; unfold numE; simp only; rw [if_pos hd]
          by_cases c4 : p - q0 = 9
          · refine pos_ c4 (now_ ?_)
            rw [stop (fun z => by omega)]
          refine neg_ c4 ?_
          obtain ⟨m', rfl⟩ : ∃ m', m = m' + 1 := ⟨m - 1, by omega⟩
          have hpw : (0 : Int) < 10 ^ m' := Int.pow_pos (by decide)
          have go : ¬ ((9 - ((m' + 1 : Nat) : Int)) = 1 ∧ n = 0) → (¬ (p > q0 ∧ n = 0)) → Ev (fun k => if 0 ≤ p then (if p < (t.size : Int) then (spec_l5R_num.l0 k (wrap64 ((wrap64 (10 * n)) + (((bt t p) - 48) % 256))) q0 t (wrap64 (p + 1)) (-1)) else none) else none) ((numE t (numA t (f + 1) p n (9 - ((m' + 1 : Nat) : Int)))).1, t, (numE t (numA t (f + 1) p n (9 - ((m' + 1 : Nat) : Int)))).2.1, (numE t (numA t (f + 1) p n (9 - ((m' + 1 : Nat) : Int)))).2.2) := by
            intro hc hc2
            have hn : n ≤ 100000000 := by
              have : (n + 1) * 1 ≤ (n + 1) * 10 ^ m' := Int.mul_le_mul_of_nonneg_left (by omega) (by omega)
              rw [Int.pow_succ] at h3
              have e : (n + 1) * (10 ^ m' * 10) = 10 * ((n + 1) * 10 ^ m') := by grind
              omega
            have e : numA t (f + 1) p n (9 - ((m' + 1 : Nat) : Int)) = numA t f (p + 1) (10 * n + (bt t p - 48)) (9 - (m' : Int)) := by
              simp only [numA]; rw [if_pos ⟨⟨c1, by omega, c3⟩, by omega, hc⟩]
              rw [show (9 : Int) - ((m' + 1 : Nat) : Int) + 1 = 9 - (m' : Int) by omega]
            rw [e, Int.emod_eq_of_lt (a := bt t p - 48) (by omega) (by omega), w64 (a := 10 * n) (by omega) (by omega), w64 (a := 10 * n + (bt t p - 48)) (by omega) (by omega), w64 (a := p + 1) (by omega) (by omega)]
            refine pos_ h0 (pos_ c1 (ih m' (p + 1) (10 * n + (bt t p - 48)) hq (by omega) (by omega) ?_ (by omega) (by omega) (by omega) (fun h => ?_)))
            · have h6 : (10 * n + (bt t p - 48) + 1) * 10 ^ m' ≤ (10 * (n + 1)) * 10 ^ m' := Int.mul_le_mul_of_nonneg_right (by omega) (by omega)
              rw [Int.pow_succ] at h3
              have e2 : (n + 1) * (10 ^ m' * 10) = (10 * (n + 1)) * 10 ^ m' := by grind
              omega
            · by_cases h8 : m' + 1 < 8
              · have := hz h8; omega
              · have : 1 ≤ n := by
                  by_cases h9 : n = 0
                  · exact absurd ⟨by omega, h9⟩ hc
                  · omega
                omega
          by_cases c5 : p > q0
          · refine pos_ c5 ?_
            by_cases c6 : n = 0
            · refine pos_ c6 (now_ ?_)
              have : ¬ (m' + 1 < 8) := fun h => by have := hz h; omega
              rw [stop (fun z => z.2 ⟨by omega, c6⟩)]
            · exact neg_ c6 (go (fun z => c6 z.2) (fun z => c6 z.2))
          · exact neg_ c5 (go (fun z => by omega) (fun z => c5 z.1))
        · rw [decide_eq_false c3]; exact out (fun z => c3 z.2.2)
      · exact neg_ c2 (out (fun z => c2 z.2.1))
    · exact neg_ c1 (out (fun z => c1 z.1))
theorem ev_num (ht : t.size ≤ 3000) {p : Int} (h0 : 0 ≤ p) (h1 : p ≤ t.size) : Ev (fun k => spec_l5R_num.f k t p (-1)) ((numE t (num t p)).1, t, (numE t (num t p)).2.1, (numE t (num t p)).2.2) := by
  simp only [spec_l5R_num.f]
  exact ev_num_l0 ht 10 9 p 0 h0 h1 (by omega) (by decide) (by omega) (by omega) (by omega) (by omega)
/-- Behind a fault nothing is read. -/
theorem ev_num_bad {p b : Int} (hb : 0 ≤ b) : Ev (fun k => spec_l5R_num.f k t p b) (0, t, p, b) := by
  simp only [spec_l5R_num.f]
  refine Ev.step (fun k => by rw [spec_l5R_num.l0]) (neg_ (by omega) ?_)
  exact Ev.step (fun k => by rw [spec_l5R_num.j1]) (neg_ (by decide) (neg_ (by omega) (now_ rfl)))
/-! ### the reference: a word that must stand there -/
variable {S : ByteArray}
theorem ev_must_l0 (ht : t.size ≤ 3000) (hS : S.size ≤ 100) (d : Nat) : ∀ (i : Nat) (p : Int), i + d = S.size → 0 ≤ p → p ≤ t.size → Ev (fun k => spec_l5R_must.l0 k S i t p (-1)) (t, (mst t S d i p).1, if (mst t S d i p).2 = true then -1 else (mst t S d i p).1) := by
  induction d with
  | zero =>
    intro i p hi h0 h1
    refine Ev.step (fun k => by rw [spec_l5R_must.l0]) (neg_ (by omega) ?_)
    refine Ev.step (fun k => by rw [spec_l5R_must.j1]) (neg_ (by decide) (now_ ?_)); rfl
  | succ d ih =>
    intro i p hi h0 h1
    refine Ev.step (fun k => by rw [spec_l5R_must.l0]) (pos_ (by omega) ?_)
    refine Ev.step (fun k => by rw [spec_l5R_must.j1]) (pos_ (by decide) ?_)
    by_cases c : p = t.size
    · have em : mst t S (d + 1) i p = (p, false) := by simp only [mst]; rw [if_neg (fun z => by omega)]
      rw [em]
      exact pos_ c (now_ rfl)
    · refine neg_ c (pos_ h0 (pos_ (by omega) (pos_ (by omega) (pos_ (by omega) ?_))))
      by_cases c2 : bt t p = bt S i
      · have em : mst t S (d + 1) i p = mst t S d (i + 1) (p + 1) := by simp only [mst]; rw [if_pos ⟨by omega, c2⟩]
        rw [em, w64 (a := p + 1) (by omega) (by omega), w64 (a := (i : Int) + 1) (by omega) (by omega)]
        exact pos_ c2 (ih (i + 1) (p + 1) (by omega) (by omega) (by omega))
      · have em : mst t S (d + 1) i p = (p, false) := by simp only [mst]; rw [if_neg (fun z => c2 z.2)]
        rw [em]
        exact neg_ c2 (now_ rfl)
theorem ev_must (ht : t.size ≤ 3000) (hS : S.size ≤ 100) {p : Int} (h0 : 0 ≤ p) (h1 : p ≤ t.size) : Ev (fun k => spec_l5R_must.f k t p (-1) S) (t, (mst t S S.size 0 p).1, if (mst t S S.size 0 p).2 = true then -1 else (mst t S S.size 0 p).1) := by
  simp only [spec_l5R_must.f]
  exact ev_must_l0 ht hS S.size 0 p (by omega) h0 h1
theorem ev_must_bad {p b : Int} (hb : 0 ≤ b) : Ev (fun k => spec_l5R_must.f k t p b S) (t, p, b) := by
  simp only [spec_l5R_must.f]
  refine Ev.step (fun k => by rw [spec_l5R_must.l0]) ?_
  rw [decide_eq_false (show ¬ b < 0 by omega)]
  by_cases c : (0 : Int) < S.size
  · exact pos_ c (Ev.step (fun k => by rw [spec_l5R_must.j1]) (neg_ (by decide) (now_ rfl)))
  · exact neg_ c (Ev.step (fun k => by rw [spec_l5R_must.j1]) (neg_ (by decide) (now_ rfl)))
end
end Go.Proofs.YtanjbdgmnecacaaDoor.Pure
