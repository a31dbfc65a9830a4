/- Short drawn profiles: what the reference draws for runs is a right profile of 400 metres at most, with an acceleration, a place and a shortfall that may be asked for. Condition: the bytes are bytes. -/
import Derived.Test.YtanjbdgmnecacaaPRx13
import Derived.Test.YtanjbdgmnecacaaPRx22
import Derived.Test.YtanjbdgmnecacaaPRx23
import Derived.Test.YtanjbdgmnecacaaPrD
import Derived.Test.YtanjbdgmnecacaaPrR
set_option linter.unusedVariables false
set_option linter.unusedSimpArgs false
namespace Go.Proofs.Ytanjbdgmnecacaa.Pure
open Go.RowKit Go.Proofs.YtanjbdgmnecacaaW.PrintWords Go.Proofs.YtanjbdgmnecacaaW.PrintLast Go.Proofs.Ytanjbdgmnecacaa.PR Go.Proofs.Ytanjbdgmnecacaa.M
section
variable {l : List Int} (hw : ∀ x ∈ l, (Lit.int .u8 x).wf = true)
include hw
theorem dr_short (a s : Int) (h0 : 0 ≤ a) (h1 : a ≤ 1000) :
    ∃ (P : PR) (a' s' : Int), Ev (fun k => spec_l6Cur_short.f k l a s) (P.ps, P.zs, P.tr, P.en, P.de, a', s') ∧ Good P ∧ tot P.ps ≤ 400 ∧ 0 ≤ a' ∧ a' ≤ a + 200 := by
  obtain ⟨P, a1, s1, hE, hD, g1, g2⟩ := dr_profile hw 1 (by omega) (by omega) a s h0 h1
  have hg := hD.good
  have ht := hD.t
  have ht2 := hg.tot
  obtain ⟨p, a2, s2, e2, p2, q2, b2, c2⟩ := pick_some hw (n := 2) s1 (a := a1) g1 (by omega) (by omega)
  by_cases c : p = 0
  · obtain ⟨r, a3, s3, e3, p3, q3, b3, c3⟩ := pick_some hw (n := tot P.ps + 1) s2 (a := a2) (by omega) (by omega) (by omega)
    obtain ⟨u, a4, s4, e4, p4, q4, b4, c4⟩ := pick_some hw (n := 20) s3 (a := a3) (by omega) (by omega) (by omega)
    have hz4 := hD.z4
    refine ⟨⟨P.ps, P.zs ++ [⟨r, tot P.ps, 1 + u⟩], P.tr, P.en, P.de⟩, a4, s4, ?_, ⟨hg.n1, hg.gp, by simp; omega, fun z hz => ?_, hg.tr0, hg.tr1, hg.en0, hg.en1, hg.de0, hg.de1⟩, by simp only; omega, by omega, by omega⟩
    · simp only [spec_l6Cur_short.f]
      refine Ev.bind hE (bindc e2 (pos_ c ?_))
      refine Ev.bind (ev_sTotal hg.gp P.zs P.tr P.en P.de) ?_
      rw [w64 (a := tot P.ps + 1) (by omega) (by omega)]
      refine bindc e3 ?_
      refine Ev.bind (ev_sTotal hg.gp P.zs P.tr P.en P.de) (bindc e4 (pos_ (by simp only; omega) ?_))
      rw [w64 (a := 1 + u) (by omega) (by omega)]
      exact now_ rfl
    · rcases List.mem_append.mp hz with hz | hz
      · exact hg.hz z hz
      · rw [List.mem_singleton] at hz; subst hz
        exact ⟨p3, by show r ≤ tot P.ps; omega, by show tot P.ps ≤ tot P.ps; omega, by show 1 ≤ 1 + u; omega, by show 1 + u ≤ 10000; omega⟩
  · refine ⟨P, a2, s2, ?_, hg, by omega, by omega, by omega⟩
    simp only [spec_l6Cur_short.f]
    exact Ev.bind hE (bindc e2 (neg_ c (now_ rfl)))
theorem dr_Runs : ∃ (P : PR) (acc x sh : Int), Ev (fun k => spec_Runs.f k l) (P.ps, P.zs, P.tr, P.en, P.de, acc, x, sh) ∧ P.askP acc x sh ∧ tot P.ps ≤ 400 ∧ acc ≤ 9 := by
  obtain ⟨P, a1, s1, hE, hg, ht, g1, g2⟩ := dr_short hw 0 0 (by omega) (by omega)
  have he := hg.en1
  have he0 := hg.en0
  obtain ⟨p, a2, s2, e2, p2, q2, b2, c2⟩ := pick_some hw (n := 9) s1 (a := a1) g1 (by omega) (by omega)
  obtain ⟨w, s3, e3, p3, q3⟩ := wide_some hw (n := P.en + 1) s2 (a := a2) (by omega) (by omega) (by omega)
  obtain ⟨r, a4, s4, e4, p4, q4, b4, c4⟩ := pick_some hw (n := 4) s3 (a := a2 + 2) (by omega) (by omega) (by omega)
  obtain ⟨u, a5, s5, e5, p5, q5, b5, c5⟩ := pick_some hw (n := 9) s4 (a := a4) (by omega) (by omega) (by omega)
  have d0 : 0 ≤ w / (1 + r) := Int.ediv_nonneg p3 (by omega)
  have d1 : w / (1 + r) ≤ w := Int.ediv_le_self _ p3
  refine ⟨P, 1 + p, w / (1 + r), u, ?_, ⟨(pok_zero ..).mpr hg, ⟨by omega, by omega⟩, ⟨d0, by omega⟩, by omega, by omega⟩, ht, by omega⟩
  simp only [spec_Runs.f]
  refine Ev.bind hE (bindc e2 ?_)
  simp only
  rw [w64 (a := P.en + 1) (by omega) (by omega)]
  refine bindc e3 (bindc e4 ?_)
  simp only
  rw [w64 (a := 1 + r) (by omega) (by omega)]
  refine neg_ (by omega) (bindc e5 (now_ ?_))
  rw [w64 (a := 1 + p) (by omega) (by omega), Int.tdiv_eq_ediv_of_nonneg p3, w64 (a := w / (1 + r)) (by omega) (by omega)]
end
end Go.Proofs.Ytanjbdgmnecacaa.Pure
