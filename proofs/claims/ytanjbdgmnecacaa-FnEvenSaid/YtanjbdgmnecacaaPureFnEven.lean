/- At every list of bytes the law FnEven answers true: on one piece without limits the fastest run is there, with twice the acceleration it is no slower, it is a run in the reference's eyes too, its speeds add up to the piece's length, and the reference tells as many ticks. Conditions: the list holds bytes and fits into memory. -/
import Derived.Test.YtanjbdgmnecacaaPEx17
import Derived.Test.YtanjbdgmnecacaaPrO
import Derived.Test.YtanjbdgmnecacaaPrBy
import Derived.Test.YtanjbdgmnecacaaPrR
import Derived.Test.YtanjbdgmnecacaaPrH
import Derived.Test.YtanjbdgmnecacaaSized
set_option linter.unusedVariables false
set_option linter.unusedSimpArgs false
namespace Go.Proofs.Ytanjbdgmnecacaa.Pure
open Go.RowKit Go.Proofs.YtanjbdgmnecacaaW.PrintWords Go.Proofs.YtanjbdgmnecacaaW.PrintLast Go.Proofs.Ytanjbdgmnecacaa.PE Go.Proofs.Ytanjbdgmnecacaa.M
theorem even_take (sp : List Int) (i : Nat) (h : i < sp.length) : (sp.take (i + 1)).sum = (sp.take i).sum + rd sp i := by
  rw [List.take_add_one, List.sum_append]
  simp [rd, List.getD_eq_getElem?_getD, h]
theorem even_bounds (sp : List Int) (h : ∀ w ∈ sp, 0 ≤ w ∧ w ≤ 60) : 0 ≤ sp.sum ∧ sp.sum ≤ 60 * sp.length := by
  induction sp with
  | nil => simp
  | cons w l ih =>
    have h1 := h w List.mem_cons_self
    have h2 := ih (fun u hu => h u (List.mem_cons_of_mem _ hu))
    rw [List.sum_cons, List.length_cons]
    omega
theorem FnEven : laws_FnEven.Pure := by
  intro l _ _ hw
  refine Ev.rounds ?_
  simp only [laws_FnEven.f]
  by_cases hc : (l.length : Int) > 1048576
  · exact pos_ hc (now_ rfl)
  refine neg_ hc ?_
  obtain ⟨q0, e0, a0, b0⟩ := wByte_some l hw 0 (by omega)
  obtain ⟨q1, e1, a1, b1⟩ := wByte_some l hw 1 (by omega)
  obtain ⟨q2, e2, a2, b2⟩ := wByte_some l hw 2 (by omega)
  refine bindc e0 (bindc e1 (bindc e2 ?_))
  rw [w64 (a := q0 * 2) (by omega) (by omega), Int.tmod_eq_emod_of_nonneg (show 0 ≤ q0 * 2 by omega), Int.tmod_eq_emod_of_nonneg a1, Int.tmod_eq_emod_of_nonneg a2, w64 (a := 1 + q0 * 2 % 400) (by omega) (by omega), w64 (a := 1 + q1 % 9) (by omega) (by omega), w64 (a := 10 + q2 % 20) (by omega) (by omega), w64 (a := 2 * (1 + q1 % 9)) (by omega) (by omega)]
  obtain ⟨n, hn⟩ : ∃ n, n = 1 + q0 * 2 % 400 := ⟨_, rfl⟩
  obtain ⟨acc, ha⟩ : ∃ n, n = 1 + q1 % 9 := ⟨_, rfl⟩
  obtain ⟨b, hb⟩ : ∃ n, n = 10 + q2 % 20 := ⟨_, rfl⟩
  rw [← hn, ← ha, ← hb]
  refine bindc rfl ?_
  obtain ⟨T, T2, sp, sp2, f1, f2, hT, hr, hs, hl, hl2, h6⟩ := even_facts (n := n) (b := b) (acc := acc) (by omega) (by omega) (by omega) (by omega) (by omega) (by omega)
  have hE1 := ev_iFast (P := P1 n b) acc 0 0
  have hE2 := ev_iFast (P := P1 n b) (2 * acc) 0 0
  have hE3 := ev_sFast (P := P1 n b) acc 0 0
  have hR := ev_sRunOk (P := P1 n b) acc 0 0 sp
  rw [f1] at hE1 hE3
  rw [f2] at hE2
  rw [hr] at hR
  have loop : ∀ d : Nat, ∀ i : Nat, i + d = sp.length → Ev (fun k => laws_FnEven.l0 k n acc (sp.take i).sum sp sp.length i (P1 n b).ps (P1 n b).tr (P1 n b).en (P1 n b).de true T sp) true := by
    intro d
    induction d with
    | zero =>
      intro i hi
      refine Ev.step (fun k => by rw [laws_FnEven.l0]) ?_
      refine neg_ (by omega) (pos_ ?_ (Ev.bind hE3 (now_ ?_)))
      · rw [List.take_of_length_le (by omega)]; exact hs
      · simp
    | succ d ih =>
      intro i hi
      have k1 := even_take sp i (by omega)
      have k2 := even_bounds (sp.take (i + 1)) (fun w hw => h6 w (List.mem_of_mem_take hw))
      rw [List.length_take] at k2
      refine Ev.step (fun k => by rw [laws_FnEven.l0, ← k1, w64 (a := (sp.take (i + 1)).sum) (by omega) (by omega), w64 (a := (i : Int) + 1) (by omega) (by omega), show (i : Int) + 1 = ((i + 1 : Nat) : Int) by omega]) ?_
      exact pos_ (by omega) (pos_ (by omega) (pos_ (by omega) (ih (i + 1) (by omega))))
  have h0 : Ev (fun k => laws_FnEven.l0 k n acc 0 sp sp.length 0 (P1 n b).ps (P1 n b).tr (P1 n b).en (P1 n b).de true T sp) true := loop sp.length 0 (by omega)
  have last : Ev (fun k => laws_FnEven.j0 k n acc (!true) (P1 n b).ps (P1 n b).tr (P1 n b).en (P1 n b).de true T sp) true := by
    refine Ev.step (fun k => by rw [laws_FnEven.j0]) ?_
    exact neg_ (by decide) h0
  refine Ev.bind hE1 (Ev.bind hE2 (pos_ rfl (pos_ rfl (neg_ (by simp only; omega) ?_))))
  exact Ev.bind hR last
end Go.Proofs.Ytanjbdgmnecacaa.Pure
