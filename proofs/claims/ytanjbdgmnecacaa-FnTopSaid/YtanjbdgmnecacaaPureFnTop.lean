/- At every list of bytes the law FnTop answers true: whatever a driver wants, a train that is watched is never beyond its end nor too fast, and Watch is the reference's. Conditions: the list holds bytes and fits into memory. -/
import Derived.Test.YtanjbdgmnecacaaPAx19
import Derived.Test.YtanjbdgmnecacaaPrW
import Derived.Test.YtanjbdgmnecacaaPrDw
import Derived.Test.YtanjbdgmnecacaaPrE
import Derived.Test.YtanjbdgmnecacaaSized
set_option linter.unusedVariables false
set_option linter.unusedSimpArgs false
namespace Go.Proofs.Ytanjbdgmnecacaa.Pure
open Go.RowKit Go.Proofs.YtanjbdgmnecacaaW.PrintWords Go.Proofs.YtanjbdgmnecacaaW.PrintLast Go.Proofs.Ytanjbdgmnecacaa.PA Go.Proofs.Ytanjbdgmnecacaa.M
theorem top_l0 {P : PR} (hg : Good P) (sp : List Int) (hsp : sp.length ≤ 1000) (ok : Bool) (br at2 : Int) (d : Nat) : ∀ i at1 : Int, 0 ≤ i → i + d = sp.length → 0 ≤ at1 → at1 ≤ P.en → moves P.O P.en (sp.drop i.toNat) at1 at2 →
    Ev (fun k => laws_FnTop.l0 k at1 sp sp.length i P.ps P.zs P.tr P.en P.de ok sp br at2) true := by
  have ht := hg.tot
  have he := hg.en1
  induction d with
  | zero =>
    intro i at1 h0 h1 h2 h3 h4
    rw [drop_len sp i (by omega)] at h4
    refine Ev.step (fun k => by rw [laws_FnTop.l0]) (neg_ (by omega) (now_ ?_))
    have h5 : at1 = at2 := h4
    rw [h5]; simp
  | succ d ih =>
    intro i at1 h0 h1 h2 h3 h4
    rw [drop_cons_getD sp i 0 h0 (by omega)] at h4
    refine Ev.step (fun k => by rw [laws_FnTop.l0]) (pos_ (by omega) (pos_ h0 (pos_ (by omega) ?_)))
    have e : rd sp i = sp.getD i.toNat 0 := rfl
    rw [e]
    generalize sp.getD i.toNat 0 = v at *
    obtain ⟨v0, v1, hm, hr⟩ := h4
    have hend := may_end v0 hm
    rw [w64 (a := at1 + v) (by omega) (by omega), w64 (a := i + 1) (by omega) (by omega)]
    refine neg_ (by omega) (neg_ (by omega) (Ev.bind (ev_wLimit hg at1 (at1 + v)) ?_))
    have next := ih (i + 1) (at1 + v) (by omega) (by omega) (by omega) hend hr
    by_cases c : v > P.O at1 (at1 + v)
    · have v2 : v = 0 := by
        by_cases z : v = 0
        · exact z
        · have := may_lim z hm; omega
      exact pos_ c (neg_ (by omega) next)
    · exact neg_ c next
theorem FnTop : laws_FnTop.Pure := by
  intro l _ _ hw
  refine Ev.rounds ?_
  simp only [laws_FnTop.f]
  by_cases hc : (l.length : Int) > 1048576
  · exact pos_ hc (now_ rfl)
  refine neg_ hc ?_
  obtain ⟨sc, P, x, ws, hE, hsc, hD, hx0, hx1, hws⟩ := dr_Profiles hw
  have hg := hD.good
  refine Ev.bind hE (Ev.bind hE ?_)
  simp only
  have hW := ev_Watch (P := P) x 0 ws
  have hsW := ev_sWatch (P := P) x 0 ws
  have hok : P.ok x := ⟨hg, hx0, by have := hg.en1; omega⟩
  have hsf : P.sf x 0 0 = true := by unfold PR.sf; rw [sf_zero]; exact decide_eq_true hx1
  have hsafe : P.safe x 0 = true := by
    unfold PR.safe; rw [okB_iff.mpr hok, hsf]; rfl
  have hmv := wrun_moves (R := P.R) (O := P.O) (en := P.en) (de := P.de) (fun y => by have := hg.R y; omega) ws true 0 x 0 x (by omega) (by omega) (by omega) (fun _ => ⟨rfl, hsf⟩) (fun z => by cases z)
  have hlen := wrun_length (R := P.R) (O := P.O) (en := P.en) (de := P.de) ws true 0 x 0 x
  have hwe : P.watch x 0 ws = (true, (P.wrun ws true 0 x 0 x).1, (P.wrun ws true 0 x 0 x).2.1, (P.wrun ws true 0 x 0 x).2.2) := by
    unfold PR.watch; rw [if_pos ⟨by omega, hsafe⟩]
  rw [hwe] at hW hsW
  refine Ev.bind hW (Ev.bind hsW ?_)
  simp only
  refine neg_ (by simp) (pos_ trivial (pos_ trivial ?_))
  have hlen2 : (P.wrun ws true 0 x 0 x).1.length = ws.length := hlen
  have n5 := hD.n5
  have z4 := hD.z4
  refine Ev.bind (ev_wInts _ (by omega)) (pos_ rfl (Ev.bind (ev_wProfile P (by omega) (by omega)) (pos_ rfl (Ev.bind (ev_wInts ws (by omega)) ?_))))
  refine Ev.step (fun k => by rw [laws_FnTop.j0]) (neg_ (by decide) ?_)
  exact top_l0 hg _ (by omega) true _ _ (P.wrun ws true 0 x 0 x).1.length 0 x (by omega) (by omega) hx0 hx1 hmv
end Go.Proofs.Ytanjbdgmnecacaa.Pure
