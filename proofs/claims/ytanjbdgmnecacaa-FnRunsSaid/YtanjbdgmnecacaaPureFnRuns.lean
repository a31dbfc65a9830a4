/- At every two lists of bytes the law FnRuns answers true: the program and the reference tell the same fastest run, it is one, no run of the drawn driver that comes home is shorter, and none as long is faster first. Conditions: the lists hold bytes and fit into memory. -/
import Derived.Test.YtanjbdgmnecacaaPRx11
import Derived.Test.YtanjbdgmnecacaaPRx25
import Derived.Test.YtanjbdgmnecacaaPRx27
import Derived.Test.YtanjbdgmnecacaaPrDr
import Derived.Test.YtanjbdgmnecacaaPrN
import Derived.Test.YtanjbdgmnecacaaPrCs
import Derived.Test.YtanjbdgmnecacaaPrT
import Derived.Test.YtanjbdgmnecacaaPrBy
import Derived.Test.YtanjbdgmnecacaaSized
set_option linter.unusedVariables false
set_option linter.unusedSimpArgs false
namespace Go.Proofs.Ytanjbdgmnecacaa.Pure
open Go.RowKit Go.Proofs.YtanjbdgmnecacaaW.PrintWords Go.Proofs.YtanjbdgmnecacaaW.PrintLast Go.Proofs.Ytanjbdgmnecacaa.PR Go.Proofs.Ytanjbdgmnecacaa.M
theorem w64s_ (i : Nat) (h : i < 1000000) : wrap64 ((i : Int) + 1) = ((i + 1 : Nat) : Int) := by rw [w64 (by omega) (by omega)]; omega
theorem ints_loop (l : List Int) (hl : l.length ≤ 2000) (d : Nat) : ∀ i : Nat, i + d = l.length → Ev (fun k => laws_wInts.l0 k l l l.length i) true := by
  induction d with
  | zero => intro i hi; exact Ev.step (fun k => by rw [laws_wInts.l0]) (neg_ (by omega) (now_ rfl))
  | succ d ih =>
    intro i hi
    refine Ev.step (fun k => by rw [laws_wInts.l0, w64 (a := (i : Int) + 1) (by omega) (by omega), show (i : Int) + 1 = ((i + 1 : Nat) : Int) by omega]) ?_
    exact pos_ (by omega) (pos_ (by omega) (pos_ (by omega) (pos_ (by omega) (pos_ rfl (ih (i + 1) (by omega))))))
theorem ev_ints (l : List Int) (hl : l.length ≤ 2000) : Ev (fun k => laws_wInts.f k l l) true := by
  simp only [laws_wInts.f]
  exact pos_ trivial (ints_loop l hl l.length 0 (by omega))
theorem later_loop (l m : List Int) (hl : l.length ≤ 2000) (hm : l.length = m.length) (d : Nat) : ∀ i : Nat, i + d = l.length → Ev (fun k => laws_wLater.l0 k l m l.length i) (lat (l.drop i) (m.drop i)) := by
  induction d with
  | zero =>
    intro i hi
    rw [List.drop_eq_nil_of_le (show l.length ≤ i by omega)]
    exact Ev.step (fun k => by rw [laws_wLater.l0]) (neg_ (by omega) (now_ (show false = lat [] (m.drop i) from by cases m.drop i <;> rfl)))
  | succ d ih =>
    intro i hi
    have hi1 : i < l.length := by omega
    have hi2 : i < m.length := by omega
    have r1 : rd l i = l[i] := by simp [rd, List.getD_eq_getElem?_getD, hi1]
    have r2 : rd m i = m[i] := by simp [rd, List.getD_eq_getElem?_getD, hi2]
    rw [List.drop_eq_getElem_cons hi1, List.drop_eq_getElem_cons hi2]
    refine Ev.step (fun k => by rw [laws_wLater.l0, r1, r2, w64 (a := (i : Int) + 1) (by omega) (by omega), show (i : Int) + 1 = ((i + 1 : Nat) : Int) by omega]) ?_
    refine pos_ (by omega) (pos_ (by omega) (pos_ (by omega) (pos_ (by omega) ?_)))
    simp only [lat]
    by_cases c : l[i] = m[i]
    · rw [if_pos c]; exact pos_ c (ih (i + 1) (by omega))
    · rw [if_neg c]; exact neg_ c (now_ rfl)
theorem ev_later (l m : List Int) (hl : l.length ≤ 2000) (hm : l.length = m.length) : Ev (fun k => laws_wLater.f k l m) (lat l m) := by
  simp only [laws_wLater.f]
  exact later_loop l m hl hm l.length 0 (by omega)
theorem fast_len {P : PR} {acc x sh : Int} : (P.fast acc x sh).2.2.length ≤ 2000 := by
  unfold PR.fast
  split
  · split
    · simp
    · simp only [Gr.path_len]; omega
  · simp
theorem FnRuns : laws_FnRuns.Pure := by
  intro l m _ _ hw _ _ hw2
  refine Ev.rounds ?_
  simp only [laws_FnRuns.f]
  have start : Ev (fun k => laws_FnRuns.j0 k l m false) true := by
    obtain ⟨P, acc, x, sh, hE, hask, ht, hacc⟩ := dr_Runs hw
    obtain ⟨hp0, ha, hx, hx2, hs⟩ := hask
    have hg : Good P := (pok_zero ..).mp hp0
    have he := hg.en1
    have hF := ev_iFast (P := P) acc x sh
    have hS := ev_sFast (P := P) acc x sh
    have hRun := fun ws => ev_RunOk (P := P) acc x sh ws
    have hbest := fun ws => fast_best (P := P) (acc := acc) (x := x) (sh := sh) (l := ws)
    have his := fast_is (P := P) (acc := acc) (x := x) (sh := sh)
    have hlen := fast_len (P := P) (acc := acc) (x := x) (sh := sh)
    generalize P.fast acc x sh = r at *
    obtain ⟨ok, T, sp⟩ := r
    simp only at hbest his hlen
    have loop : ∀ d : Nat, ∀ (i : Nat) (v y : Int) (ws : List Int), i + d = 60 → ws.length = i → 0 ≤ v → v ≤ 60 → 0 ≤ y → y ≤ 400 + 60 * i →
        Ev (fun k => laws_FnRuns.l0 k m acc x sh v y ws i P.ps P.zs P.tr P.en P.de ok T sp) true := by
      intro d
      induction d with
      | zero =>
        intro i v y ws h0 h1 h2 h3 h4 h5
        exact Ev.step (fun k => by rw [laws_FnRuns.l0]) (neg_ (by omega) (now_ rfl))
      | succ d ih =>
        intro i v y ws h0 h1 h2 h3 h4 h5
        have next : ∀ w : Int, 0 ≤ w → w ≤ 100 → Ev (fun k => laws_FnRuns.j8 k m acc x sh y ws i w P.ps P.zs P.tr P.en P.de ok T sp) true := by
          intro w w0 w1
          refine Ev.step (fun k => by rw [laws_FnRuns.j8, w64s_ i (by omega), w64 (a := y + 60) (by omega) (by omega), w64 (a := y + w) (by omega) (by omega)]) ?_
          by_cases c : w > 60
          · refine pos_ c ?_
            have hq := ev_sSafe (P := P) y 60
            cases hsf : P.safe y 60 with
            | false => rw [hsf] at hq; exact Ev.bind hq (neg_ (by decide) (now_ rfl))
            | true => rw [hsf] at hq; exact Ev.bind hq (pos_ rfl (pos_ (by omega) (ih (i + 1) 60 (y + 60) (ws ++ [60]) (by omega) (by simp; omega) (by omega) (by omega) (by omega) (by omega))))
          · refine neg_ c ?_
            have hq := ev_sSafe (P := P) y w
            cases hsf : P.safe y w with
            | false => rw [hsf] at hq; exact Ev.bind hq (neg_ (by decide) (now_ rfl))
            | true => rw [hsf] at hq; exact Ev.bind hq (pos_ rfl (pos_ (by omega) (ih (i + 1) w (y + w) (ws ++ [w]) (by omega) (by simp; omega) (by omega) (by omega) (by omega) (by omega))))
        have down : ∀ e : Nat, ∀ lo w : Int, w - lo = e → 0 ≤ lo → w ≤ 100 → Ev (fun k => laws_FnRuns.l1 k m acc x sh y ws i lo w P.ps P.zs P.tr P.en P.de ok T sp) true := by
          intro e
          induction e with
          | zero => intro lo w z0 z1 z2; exact Ev.step (fun k => by rw [laws_FnRuns.l1]) (neg_ (by omega) (next w (by omega) z2))
          | succ e ih2 =>
            intro lo w z0 z1 z2
            have hq := ev_sSafe (P := P) y w
            refine Ev.step (fun k => by rw [laws_FnRuns.l1, w64 (a := w - 1) (by omega) (by omega)]) (pos_ (by omega) ?_)
            cases hsf : P.safe y w with
            | false => rw [hsf] at hq; exact Ev.bind hq (neg_ (by decide) (ih2 lo (w - 1) (by omega) z1 (by omega)))
            | true => rw [hsf] at hq; exact Ev.bind hq (pos_ rfl (next w (by omega) z2))
        have six : ∀ lo : Int, 0 ≤ lo → lo ≤ v + 1 → Ev (fun k => laws_FnRuns.j6 k m acc x sh v y ws i lo P.ps P.zs P.tr P.en P.de ok T sp) true := by
          intro lo z0 z1
          obtain ⟨b, eb, b0, b1⟩ := wByte_some m hw2 i (by omega)
          have m0 := Int.emod_nonneg b (show v + acc - lo + 1 ≠ 0 by omega)
          have m1 := Int.emod_lt_of_pos b (show 0 < v + acc - lo + 1 by omega)
          refine Ev.step (fun k => by rw [laws_FnRuns.j6, w64 (a := v + acc) (by omega) (by omega), w64 (a := v + acc - lo) (by omega) (by omega), w64 (a := v + acc - lo + 1) (by omega) (by omega)]) ?_
          refine bindc eb (neg_ (by omega) ?_)
          rw [Int.tmod_eq_emod_of_nonneg b0, w64 (a := lo + b % (v + acc - lo + 1)) (by omega) (by omega)]
          exact down (b % (v + acc - lo + 1)).toNat lo _ (by omega) z0 (by omega)
        have five : Ev (fun k => laws_FnRuns.j5 k m acc x sh v y ws i P.ps P.zs P.tr P.en P.de ok T sp) true := by
          have hq := ev_sBrakeAt (P := P) y
          have hr : -1 ≤ P.rateAt y ∧ P.rateAt y ≤ 100000 := by
            unfold PR.rateAt
            split
            · have := hg.R y; omega
            · omega
          generalize P.rateAt y = q at *
          refine Ev.step (fun k => by rw [laws_FnRuns.j5]) (Ev.bind hq ?_)
          rw [w64 (a := v - q) (by omega) (by omega)]
          by_cases c : v - q < 0
          · exact pos_ c (six 0 (by omega) (by omega))
          · exact neg_ c (six (v - q) (by omega) (by omega))
        have hq := hRun ws
        refine Ev.step (fun k => by rw [laws_FnRuns.l0]) (pos_ (by omega) ?_)
        cases hok : P.runOk acc x sh ws with
        | false => rw [hok] at hq; exact Ev.bind hq (neg_ (by decide) five)
        | true =>
          rw [hok] at hq
          obtain ⟨k1, k2, k3⟩ := hbest ws hok
          subst k1
          refine Ev.bind hq (pos_ rfl (pos_ rfl ?_))
          rw [decide_eq_false (by omega)]
          refine Ev.step (fun k => by rw [laws_FnRuns.j4]) (neg_ (by decide) ?_)
          by_cases c : (ws.length : Int) = T
          · refine pos_ c ?_
            have hl := ev_later ws sp (by omega) (by have := (his rfl).1; omega)
            rw [k3 c] at hl
            exact Ev.bind hl (neg_ (by decide) five)
          · exact neg_ c five
    have two : Ev (fun k => laws_FnRuns.j2 k m acc x sh false P.ps P.zs P.tr P.en P.de ok T sp) true := by
      refine Ev.step (fun k => by rw [laws_FnRuns.j2]) ?_
      exact neg_ (by decide) (loop 60 0 0 x [] (by omega) rfl (by omega) (by omega) hx.1 (by omega))
    refine Ev.step (fun k => by rw [laws_FnRuns.j0]) (neg_ (by decide) (Ev.bind hE (Ev.bind hF (Ev.bind hS ?_))))
    refine neg_ (by simp) (pos_ rfl (Ev.bind (ev_ints sp hlen) ?_))
    refine Ev.step (fun k => by rw [laws_FnRuns.j1]) (neg_ (by decide) ?_)
    cases ok with
    | false => exact neg_ (by simp) two
    | true =>
      obtain ⟨k1, k2⟩ := his rfl
      have hq := hRun sp
      rw [k2] at hq
      exact pos_ rfl (pos_ k1 (Ev.bind hq two))
  by_cases hc : (l.length : Int) > 1048576
  · exact pos_ hc (Ev.step (fun k => by rw [laws_FnRuns.j0]) (pos_ rfl (now_ rfl)))
  refine neg_ hc ?_
  by_cases hc2 : (m.length : Int) > 1048576
  · rw [decide_eq_true hc2]
    exact Ev.step (fun k => by rw [laws_FnRuns.j0]) (pos_ rfl (now_ rfl))
  · rw [decide_eq_false hc2]
    exact start
end Go.Proofs.Ytanjbdgmnecacaa.Pure
