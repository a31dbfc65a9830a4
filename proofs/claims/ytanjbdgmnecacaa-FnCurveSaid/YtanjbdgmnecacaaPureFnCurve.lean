/- At every list of bytes the law FnCurve answers true: the curve's points are MostNow of their places, step by step, and at the end it is 0. Conditions: the list holds bytes and fits into memory. -/
import Derived.Test.YtanjbdgmnecacaaPAx0
import Derived.Test.YtanjbdgmnecacaaPAx25
import Derived.Test.YtanjbdgmnecacaaPrV
import Derived.Test.YtanjbdgmnecacaaPrDw
import Derived.Test.YtanjbdgmnecacaaPrBy
import Derived.Test.YtanjbdgmnecacaaSized
set_option linter.unusedVariables false
set_option linter.unusedSimpArgs false
namespace Go.Proofs.Ytanjbdgmnecacaa.Pure
open Go.RowKit Go.Proofs.YtanjbdgmnecacaaW.PrintWords Go.Proofs.YtanjbdgmnecacaaW.PrintLast Go.Proofs.Ytanjbdgmnecacaa.PA Go.Proofs.Ytanjbdgmnecacaa.M
theorem most_end {P : PR} (hg : Good P) : P.most P.en = 0 := by
  obtain ⟨m0, m1, m2, m3⟩ := most_spec hg (Int.le_refl P.en)
  by_cases c : 1 ≤ P.most P.en
  · have h := m3 1 (by omega) c
    unfold PR.sf at h
    have := may_end (by omega) (sf_may (by omega) h)
    omega
  · omega
theorem FnCurve : laws_FnCurve.Pure := by
  intro l _ _ hw
  refine Ev.rounds ?_
  simp only [laws_FnCurve.f]
  by_cases hc : (l.length : Int) > 1048576
  · exact pos_ hc (now_ rfl)
  refine neg_ hc ?_
  obtain ⟨sc, P, x, ws, hE, hsc, hD, hx0, hx1, hws⟩ := dr_Profiles hw
  have hg := hD.good
  obtain ⟨b, eb, b0, b1⟩ := wByte_some l hw 0 (by omega)
  refine Ev.bind hE (bindc eb ?_)
  simp only
  have en0 := hg.en0
  have en1 := hg.en1
  have ht := hg.tot
  rw [Int.tmod_eq_emod_of_nonneg b0]
  have q0 : 0 ≤ b % 20 := by omega
  have q1 : b % 20 ≤ 19 := by omega
  generalize b % 20 = r at *
  rw [w64 (a := 1 + r) (by omega) (by omega), Int.tdiv_eq_ediv_of_nonneg en0]
  have d0 := Int.ediv_nonneg en0 (show 0 ≤ 1 + r by omega)
  have d1 : P.en / (1 + r) ≤ P.en := Int.ediv_le_self _ en0
  have d2 := Int.lt_ediv_add_one_mul_self P.en (show 0 < 1 + r by omega)
  rw [w64 (a := P.en / (1 + r)) (by omega) (by omega), w64 (a := 1 + P.en / (1 + r)) (by omega) (by omega)]
  have hs : 1 ≤ 1 + P.en / (1 + r) := by omega
  have hs2 : 1 + P.en / (1 + r) ≤ 200000000 := by omega
  have hlt : P.en < (1 + r) * (1 + P.en / (1 + r)) := by rw [Int.mul_comm, Int.add_comm 1 (P.en / (1 + r))]; exact d2
  generalize 1 + P.en / (1 + r) = step at *
  have e0 := Int.ediv_nonneg en0 (show 0 ≤ step by omega)
  have e1 : P.en / step < 1 + r := Int.ediv_lt_of_lt_mul (by omega) hlt
  refine neg_ (by omega) (Ev.bind (ev_Curve hg hs hs2 (by omega)) (neg_ (by omega) ?_))
  have hlen := curve_length hg hs
  rw [Int.tdiv_eq_ediv_of_nonneg en0, w64 (a := P.en / step) (by omega) (by omega), w64 (a := P.en / step + 1) (by omega) (by omega)]
  refine pos_ hlen ?_
  have hok : ∀ y, 0 ≤ y → y ≤ P.en → P.mostNow y = P.most y := by
    intro y y0 y1
    unfold PR.mostNow
    rw [if_pos (okB_iff.mpr ⟨hg, y0, by omega⟩)]
  have loop : ∀ d i : Nat, i + d = (P.curve step).length → Ev (fun k => laws_FnCurve.l0 k step (P.curve step) (P.curve step).length i P.ps P.zs P.tr P.en P.de) true := by
    intro d
    induction d with
    | zero =>
      intro i h
      refine Ev.step (fun k => by rw [laws_FnCurve.l0]) (neg_ (by omega) (Ev.bind (ev_MostNow P.en) (now_ ?_)))
      rw [hok P.en en0 (Int.le_refl _), most_end hg]; rfl
    | succ d ih =>
      intro i h
      have hi : rd_T52 (P.curve step) i = P.point step i := by
        show (P.curve step).getD ((i : Int)).toNat z52 = _
        rw [Int.toNat_natCast, List.getD_eq_getElem?_getD, List.getElem?_eq_getElem (by omega)]
        simp [PR.curve]
      obtain ⟨s0, s1⟩ := step_le hg hs (i := i) (by omega)
      refine Ev.step (fun k => by rw [laws_FnCurve.l0]) (pos_ (by omega) (pos_ (by omega) (pos_ (by omega) ?_)))
      rw [hi, w64 (a := (i : Int) * step) (by omega) (by omega), w64 (a := (i : Int) + 1) (by omega) (by omega)]
      have hM := ev_MostNow (P := P) ((i : Int) * step)
      have hsM := ev_sMostNow (P := P) ((i : Int) * step)
      rw [hok _ s0 s1] at hM hsM
      refine pos_ rfl (Ev.bind hM (pos_ rfl (Ev.bind hsM (pos_ rfl ?_))))
      exact ih (i + 1) (by omega)
  exact loop (P.curve step).length 0 (by omega)
end Go.Proofs.Ytanjbdgmnecacaa.Pure
