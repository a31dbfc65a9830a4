/- Runs: RunOk of the program and of the reference are one plain function. No condition. -/
import Derived.Test.YtanjbdgmnecacaaPRx4
import Derived.Test.YtanjbdgmnecacaaPRx9
import Derived.Test.YtanjbdgmnecacaaPRx13
import Derived.Test.YtanjbdgmnecacaaPRx14
import Derived.Test.YtanjbdgmnecacaaPRx24
import Derived.Test.YtanjbdgmnecacaaPrB
set_option linter.unusedVariables false
set_option linter.unusedSimpArgs false
namespace Go.Proofs.Ytanjbdgmnecacaa.Pure
open Go.RowKit Go.Proofs.YtanjbdgmnecacaaW.PrintWords Go.Proofs.YtanjbdgmnecacaaW.PrintLast Go.Proofs.Ytanjbdgmnecacaa.PR Go.Proofs.Ytanjbdgmnecacaa.M
section
variable {P : PR}
/-- May these speeds follow, one after the other, and does it stand where it has to? -/
def runA (R : Int → Int) (O : Int → Int → Int) (en acc short : Int) : List Int → Int → Int → Bool
  | [], x, v => decide (v = 0) && decide (en - x ≤ short)
  | w :: ws, x, v => if (less v (R x) ≤ w ∧ w ≤ v + acc ∧ w ≤ 60) ∧ may O en x w = true then runA R O en acc short ws (x + w) w else false
def PR.askP (P : PR) (acc x short : Int) : Prop := pokV P.ps P.zs P.tr P.en P.de = 0 ∧ (1 ≤ acc ∧ acc ≤ 20) ∧ (0 ≤ x ∧ x ≤ P.en) ∧ P.en - x ≤ 2000 ∧ (0 ≤ short ∧ short ≤ 2000)
open Classical in
noncomputable def PR.runOk (P : PR) (acc x short : Int) (ws : List Int) : Bool := if P.askP acc x short ∧ ws.length ≤ 2000 then runA P.R P.O P.en acc short ws x 0 else false
theorem ev_may' (hg : Good P) {x v : Int} (h0 : 0 ≤ x) (h1 : x ≤ 200000000) (h2 : 0 ≤ v) (h3 : v ≤ 10000) : Ev (fun k => spec_l3may.f k P.ps P.zs P.tr P.en P.de x v) (may P.O P.en x v) := by
  simp only [spec_l3may.f]
  unfold may
  by_cases c : v = 0
  · rw [if_pos c]; exact pos_ c (now_ rfl)
  · rw [if_neg c]; refine neg_ c ?_
    rw [w64 (a := x + v) (by omega) (by omega)]
    by_cases c1 : x + v ≤ P.en
    · refine pos_ c1 (Ev.bind (ev_l2over hg x (x + v)) (now_ ?_))
      rw [decide_eq_true c1, Bool.true_and]
    · refine neg_ c1 (now_ ?_)
      rw [decide_eq_false c1, Bool.false_and]
theorem less_eq' {v b : Int} (h0 : -9223372036854775808 ≤ v - b) (h1 : v - b ≤ 9223372036854775807) : spec_l2less.f v b = some (less v b) := by
  unfold spec_l2less.f less
  split
  · rfl
  · rw [w64 h0 h1]
theorem ev_asked (acc x short : Int) (hx : P.askP acc x short) : impl_asked.f P.ps P.zs P.tr P.en P.de acc x short = some true := by
  obtain ⟨h0, h1, h2, h3, h4⟩ := hx
  have hg : Good P := (pok_zero ..).mp h0
  have ht := hg.tot
  have he := hg.en1
  simp only [impl_asked.f, iPOk, Option.bind_some]
  rw [if_pos h0, if_pos h1.1, if_pos h1.2, if_pos h2.1, if_pos h2.2, w64 (a := P.en - x) (by omega) (by omega), if_pos h3, if_pos h4.1, decide_eq_true h4.2]
theorem ev_asked_f (acc x short : Int) (hx : ¬ P.askP acc x short) : impl_asked.f P.ps P.zs P.tr P.en P.de acc x short = some false := by
  simp only [impl_asked.f, iPOk, Option.bind_some]
  by_cases h0 : pokV P.ps P.zs P.tr P.en P.de = 0
  · have hg : Good P := (pok_zero ..).mp h0
    have ht := hg.tot
    have he := hg.en1
    rw [if_pos h0]
    by_cases h1 : acc ≥ 1
    · rw [if_pos h1]
      by_cases h2 : acc ≤ 20
      · rw [if_pos h2]
        by_cases h3 : x ≥ 0
        · rw [if_pos h3]
          by_cases h4 : x ≤ P.en
          · rw [if_pos h4, w64 (a := P.en - x) (by omega) (by omega)]
            by_cases h5 : P.en - x ≤ 2000
            · rw [if_pos h5]
              by_cases h6 : short ≥ 0
              · rw [if_pos h6, decide_eq_false (fun z => hx ⟨h0, ⟨h1, h2⟩, ⟨h3, h4⟩, h5, ⟨h6, z⟩⟩)]
              · rw [if_neg h6]
            · rw [if_neg h5]
          · rw [if_neg h4]
        · rw [if_neg h3]
      · rw [if_neg h2]
    · rw [if_neg h1]
  · rw [if_neg h0]
theorem ev_l4good (acc x short : Int) (hx : P.askP acc x short) : Ev (fun k => spec_l4good.f k P.ps P.zs P.tr P.en P.de acc x short) true := by
  obtain ⟨h0, h1, h2, h3, h4⟩ := hx
  have hg : Good P := (pok_zero ..).mp h0
  have ht := hg.tot
  have he := hg.en1
  simp only [spec_l4good.f]
  refine Ev.bind (ev_sPOk P.ps P.zs P.tr P.en P.de) (pos_ h0 (bindc (l1in_t h1) (pos_ rfl (bindc (l1in_t h2) (pos_ rfl ?_)))))
  rw [w64 (a := P.en - x) (by omega) (by omega)]
  exact pos_ h3 (bindc (l1in_t h4) (now_ rfl))
theorem ev_l4good_f (acc x short : Int) (hx : ¬ P.askP acc x short) : Ev (fun k => spec_l4good.f k P.ps P.zs P.tr P.en P.de acc x short) false := by
  simp only [spec_l4good.f]
  refine Ev.bind (ev_sPOk P.ps P.zs P.tr P.en P.de) ?_
  by_cases h0 : pokV P.ps P.zs P.tr P.en P.de = 0
  · have hg : Good P := (pok_zero ..).mp h0
    have ht := hg.tot
    have he := hg.en1
    refine pos_ h0 ?_
    by_cases h1 : 1 ≤ acc ∧ acc ≤ 20
    · refine bindc (l1in_t h1) (pos_ rfl ?_)
      by_cases h2 : 0 ≤ x ∧ x ≤ P.en
      · refine bindc (l1in_t h2) (pos_ rfl ?_)
        rw [w64 (a := P.en - x) (by omega) (by omega)]
        by_cases h3 : P.en - x ≤ 2000
        · refine pos_ h3 ?_
          have h4 : ¬ (0 ≤ short ∧ short ≤ 2000) := fun z => hx ⟨h0, h1, h2, h3, z⟩
          exact bindc (l1in_f h4) (now_ rfl)
        · exact neg_ h3 (now_ rfl)
      · exact bindc (l1in_f h2) (neg_ (by decide) (now_ rfl))
    · exact bindc (l1in_f h1) (neg_ (by decide) (now_ rfl))
  · exact neg_ h0 (now_ rfl)
variable {acc short : Int}
theorem ev_RunOk_l0 (hg : Good P) (ha : 1 ≤ acc ∧ acc ≤ 20) (hs : 0 ≤ short ∧ short ≤ 2000) (l : List Int) (hl : l.length ≤ 2000) (d : Nat) : ∀ i : Nat, i + d = l.length → ∀ x v : Int, 0 ≤ x → x ≤ P.en → 0 ≤ v → v ≤ 60 →
    Ev (fun k => impl_RunOk.l0 k acc x short v l l.length i P.ps P.zs P.tr P.en P.de) (runA P.R P.O P.en acc short (l.drop i) x v) := by
  have ht := hg.tot
  have he := hg.en1
  induction d with
  | zero =>
    intro i hi x v h0 h1 h2 h3
    rw [List.drop_eq_nil_of_le (by omega)]
    simp only [runA]
    refine Ev.step (fun k => by rw [impl_RunOk.l0]) (neg_ (by omega) ?_)
    rw [w64 (a := P.en - x) (by omega) (by omega)]
    by_cases c : v = 0
    · refine pos_ c (now_ ?_); rw [decide_eq_true c, Bool.true_and]
    · refine neg_ c (now_ ?_); rw [decide_eq_false c, Bool.false_and]
  | succ d ih =>
    intro i hi x v h0 h1 h2 h3
    have hr := hg.R x
    have e : rd l (i : Int) = l[i]'(by omega) := by
      unfold rd
      rw [List.getD_eq_getElem?_getD, Int.toNat_natCast, List.getElem?_eq_getElem (by omega)]; rfl
    rw [List.drop_eq_getElem_cons (by omega)]
    simp only [runA]
    refine Ev.step (fun k => by rw [impl_RunOk.l0, e]) (pos_ (by omega) (pos_ (by omega) (pos_ (by omega) ?_)))
    generalize l[i]'(by omega) = w
    rw [w64 (a := v + acc) (by omega) (by omega), w64 (a := (i : Int) + 1) (by omega) (by omega)]
    by_cases c1 : w > v + acc
    · rw [if_neg (fun z => by have := z.1.2.1; omega)]; exact pos_ c1 (now_ rfl)
    refine neg_ c1 (Ev.bind (ev_brakeAt hg h0 (by omega)) ?_)
    rw [w64 (a := v - P.R x) (by omega) (by omega)]
    have hless : less v (P.R x) = if v < P.R x then 0 else v - P.R x := rfl
    by_cases c2 : w < v - P.R x
    · rw [if_neg (fun z => by have := z.1.1; rw [hless] at this; split at this <;> omega)]; exact pos_ c2 (now_ rfl)
    refine neg_ c2 ?_
    by_cases c3 : w < 0
    · rw [if_neg (fun z => by have := z.1.1; rw [hless] at this; split at this <;> omega)]; exact pos_ c3 (now_ rfl)
    refine neg_ c3 ?_
    by_cases c4 : w > 60
    · rw [if_neg (fun z => by have := z.1.2.2; omega)]; exact pos_ c4 (now_ rfl)
    refine neg_ c4 ?_
    rw [w64 (a := x + w) (by omega) (by omega)]
    have hlo : less v (P.R x) ≤ w ∧ w ≤ v + acc ∧ w ≤ 60 := ⟨by rw [hless]; split <;> omega, by omega, by omega⟩
    by_cases c5 : x + w > P.en
    · rw [if_neg (fun z => by have := z.2; unfold may at this; split at this <;> simp at this <;> omega)]; exact pos_ c5 (now_ rfl)
    refine neg_ c5 ?_
    have hn := ih (i + 1) (by omega) (x + w) w (by omega) (by omega) (by omega) (by omega)
    by_cases c6 : w > 0
    · refine pos_ c6 (Ev.bind (ev_touched hg x (x + w)) ?_)
      by_cases c7 : w > P.O x (x + w)
      · rw [if_neg (fun z => by have := z.2; unfold may at this; rw [if_neg (by omega)] at this; simp at this; omega)]; exact pos_ c7 (now_ rfl)
      · rw [if_pos ⟨hlo, by unfold may; rw [if_neg (by omega)]; simp; omega⟩]
        exact neg_ c7 hn
    · rw [if_pos ⟨hlo, by unfold may; rw [if_pos (by omega)]; simp; omega⟩]
      exact neg_ c6 hn
theorem ev_RunOk (acc x short : Int) (l : List Int) : Ev (fun k => impl_RunOk.f k P.ps P.zs P.tr P.en P.de acc x short l) (P.runOk acc x short l) := by
  simp only [impl_RunOk.f]
  unfold PR.runOk
  by_cases c : P.askP acc x short
  · refine bindc (ev_asked acc x short c) (pos_ rfl ?_)
    by_cases c2 : l.length ≤ 2000
    · rw [if_pos ⟨c, c2⟩, decide_eq_false (by omega)]
      refine Ev.step (fun k => by rw [impl_RunOk.j0]) (neg_ (by decide) ?_)
      have := ev_RunOk_l0 (P := P) (short := short) ((pok_zero ..).mp c.1) c.2.1 c.2.2.2.2 l c2 l.length 0 (by omega) x 0 c.2.2.1.1 c.2.2.1.2 (by omega) (by omega)
      simpa using this
    · rw [if_neg (fun z => c2 z.2), decide_eq_true (by omega)]
      exact Ev.step (fun k => by rw [impl_RunOk.j0]) (pos_ rfl (now_ rfl))
  · refine bindc (ev_asked_f acc x short c) (neg_ (by decide) ?_)
    rw [if_neg (fun z => c z.1)]
    exact Ev.step (fun k => by rw [impl_RunOk.j0]) (pos_ rfl (now_ rfl))
end
end Go.Proofs.Ytanjbdgmnecacaa.Pure
