/- Drawn wants, and the whole of what a law draws by 'Profiles'. Condition: the bytes are bytes. -/
import Derived.Test.YtanjbdgmnecacaaDoorPTx6
import Derived.Test.YtanjbdgmnecacaaDoorPTx7
import Derived.Test.YtanjbdgmnecacaaDoorPTx8
import Derived.Test.YtanjbdgmnecacaaDoorPrD
set_option linter.unusedVariables false
set_option linter.unusedSimpArgs false
namespace Go.Proofs.YtanjbdgmnecacaaDoor.Pure
open Go.RowKit Go.Proofs.YtanjbdgmnecacaaDoorW.PrintWords Go.Proofs.YtanjbdgmnecacaaDoorW.PrintLast Go.Proofs.YtanjbdgmnecacaaDoor.PT Go.Proofs.YtanjbdgmnecacaaDoor.M
section
variable {l : List Int} (hw : ∀ x ∈ l, (Lit.int .u8 x).wf = true)
include hw
theorem speed_ev {a : Int} (s : Int) (h0 : 0 ≤ a) (h1 : a ≤ 800000) : ∃ r a' s', Ev (fun k => spec_l6Cur_speed.f k l a s) (r, a', s') ∧ 0 ≤ a' ∧ a' ≤ a + 10 := by
  obtain ⟨p, a1, s1, e1, p1, q1, b1, c1⟩ := pick_some hw (n := 10) s h0 (by omega) (by omega)
  obtain ⟨p4, a4, s4, e4, p41, q4, b4, c4⟩ := pick_some hw (n := 4) s1 (a := a1) (by omega) (by omega) (by omega)
  have j : ∀ b : Bool, ∃ r a' s', Ev (fun k => spec_l6Cur_speed.j0 k b l a1 s1) (r, a', s') ∧ 0 ≤ a' ∧ a' ≤ a + 10 := by
    intro b
    obtain ⟨w, s2, e2, p2, q2⟩ := wide_some hw (n := 10000) s1 (a := a1) (by omega) (by omega) (by omega)
    obtain ⟨q, a3, s3, e3, p3, q3, b3, c3⟩ := pick_some hw (n := 200) s1 (a := a1) (by omega) (by omega) (by omega)
    cases b with
    | true =>
      refine ⟨w, a1 + 2, s2, Ev.step (fun k => by rw [spec_l6Cur_speed.j0]) (pos_ rfl ?_), by omega, by omega⟩
      simp only [e2, Option.bind_some]; exact now_ rfl
    | false =>
      refine ⟨q, a3, s3, Ev.step (fun k => by rw [spec_l6Cur_speed.j0]) (neg_ (by decide) ?_), by omega, by omega⟩
      simp only [e3, Option.bind_some]; exact now_ rfl
  simp only [spec_l6Cur_speed.f, e1, Option.bind_some]
  by_cases c : p = 0
  · refine ⟨rd [(-1), 0, 10000, 10001] p4, a4, s4, pos_ c ?_, by omega, by omega⟩
    simp only [e4, Option.bind_some]
    exact pos_ p41 (pos_ (by simp; omega) (now_ rfl))
  · by_cases c2 : p = 1
    · obtain ⟨r, a', s', hE, g⟩ := j (p == 1)
      exact ⟨r, a', s', neg_ c (pos_ c2 hE), g⟩
    · obtain ⟨r, a', s', hE, g⟩ := j (p == 2)
      exact ⟨r, a', s', neg_ c (neg_ c2 hE), g⟩
theorem wants_l0 (d : Nat) : ∀ x4 a s : Int, ∀ ws : List Int, ws.length + d ≤ 40 → 0 ≤ a → a + 20 * d ≤ 700000 →
    ∃ r a' s', Ev (fun k => spec_l6Cur_wants.l0 k ws x4 d l a s) (r, a', s') ∧ r.length ≤ 40 ∧ 0 ≤ a' ∧ a' ≤ a + 20 * d := by
  induction d with
  | zero =>
    intro x4 a s ws h1 h2 h3
    exact ⟨ws, a, s, Ev.step (fun k => by rw [spec_l6Cur_wants.l0]) (neg_ (by omega) (now_ rfl)), by omega, by omega, by omega⟩
  | succ d ih =>
    intro x4 a s ws h1 h2 h3
    obtain ⟨p, a1, s1, e1, p1, q1, b1, c1⟩ := pick_some hw (n := 6) s h2 (by omega) (by omega)
    have hd : wrap64 (((d + 1 : Nat) : Int) - 1) = d := by rw [w64 (by omega) (by omega)]; omega
    have h0 : ((d + 1 : Nat) : Int) > 0 := by omega
    by_cases c0 : p = 0
    · obtain ⟨r1, a2, s2, hE, g1, g2⟩ := speed_ev hw s1 (a := a1) (by omega) (by omega)
      obtain ⟨r, a', s', hE2, g3, g4, g5⟩ := ih r1 a2 s2 (ws ++ [r1]) (by simp; omega) g1 (by omega)
      refine ⟨r, a', s', Ev.step (fun k => by rw [spec_l6Cur_wants.l0]) (pos_ h0 ?_), g3, g4, by omega⟩
      simp only [e1, Option.bind_some]
      refine pos_ c0 (Ev.bind hE (pos_ (by omega) ?_))
      rw [hd]; exact hE2
    · by_cases c2 : p = 1
      · obtain ⟨q, a2, s2, e2, p2, q2, b2, cc2⟩ := pick_some hw (n := 60) s1 (a := a1) (by omega) (by omega) (by omega)
        obtain ⟨r, a', s', hE2, g3, g4, g5⟩ := ih (wrap64 (x4 + q)) a2 s2 (ws ++ [wrap64 (x4 + q)]) (by simp; omega) (by omega) (by omega)
        refine ⟨r, a', s', Ev.step (fun k => by rw [spec_l6Cur_wants.l0]) (pos_ h0 ?_), g3, g4, by omega⟩
        simp only [e1, e2, Option.bind_some]
        refine neg_ c0 (pos_ c2 (pos_ (by omega) ?_))
        rw [hd]; exact hE2
      · by_cases c3 : p = 2
        · obtain ⟨q, a2, s2, e2, p2, q2, b2, cc2⟩ := pick_some hw (n := 30) s1 (a := a1) (by omega) (by omega) (by omega)
          obtain ⟨r, a', s', hE2, g3, g4, g5⟩ := ih (wrap64 (x4 - q)) a2 s2 (ws ++ [wrap64 (x4 - q)]) (by simp; omega) (by omega) (by omega)
          refine ⟨r, a', s', Ev.step (fun k => by rw [spec_l6Cur_wants.l0]) (pos_ h0 ?_), g3, g4, by omega⟩
          simp only [e1, e2, Option.bind_some]
          refine neg_ c0 (neg_ c2 (pos_ c3 (pos_ (by omega) ?_)))
          rw [hd]; exact hE2
        · obtain ⟨q, a2, s2, e2, p2, q2, b2, cc2⟩ := pick_some hw (n := 12) s1 (a := a1) (by omega) (by omega) (by omega)
          obtain ⟨r, a', s', hE2, g3, g4, g5⟩ := ih (wrap64 (x4 + q)) a2 s2 (ws ++ [wrap64 (x4 + q)]) (by simp; omega) (by omega) (by omega)
          refine ⟨r, a', s', Ev.step (fun k => by rw [spec_l6Cur_wants.l0]) (pos_ h0 ?_), g3, g4, by omega⟩
          simp only [e1, e2, Option.bind_some]
          refine neg_ c0 (neg_ c2 (neg_ c3 (pos_ (by omega) ?_)))
          rw [hd]; exact hE2
theorem wants_ev (a s : Int) (h0 : 0 ≤ a) (h1 : a ≤ 10000) : ∃ r a' s', Ev (fun k => spec_l6Cur_wants.f k l a s) (r, a', s') ∧ r.length ≤ 40 := by
  obtain ⟨p, a1, s1, e1, p1, q1, b1, c1⟩ := pick_some hw (n := 40) s h0 (by omega) (by omega)
  obtain ⟨q, a2, s2, e2, p2, q2, b2, c2⟩ := pick_some hw (n := 40) s1 (a := a1) (by omega) (by omega) (by omega)
  obtain ⟨n, rfl⟩ : ∃ n : Nat, q = n := ⟨q.toNat, by omega⟩
  obtain ⟨r, a', s', hE, g1, g2, g3⟩ := wants_l0 hw n p a2 s2 [] (by simp; omega) (by omega) (by omega)
  refine ⟨r, a', s', ?_, g1⟩
  simp only [spec_l6Cur_wants.f, e1, e2, Option.bind_some]
  exact hE
/-- What a law draws. -/
theorem dr_Profiles : ∃ sc P x ws, Ev (fun k => spec_Profiles.f k l) (P.ps, P.zs, P.tr, P.en, P.de, x, ws) ∧ sc ≤ 30 ∧ Drawn sc P ∧ 0 ≤ x ∧ x ≤ P.en ∧ ws.length ≤ 40 := by
  obtain ⟨p, a1, s1, e1, p1, q1, b1, c1⟩ := pick_some hw (n := 30) (a := 0) 0 (by omega) (by omega) (by omega)
  obtain ⟨P, a2, s2, hE, hD, g1, g2⟩ := dr_profile hw (1 + p) (by omega) (by omega) a1 s1 (by omega) (by omega)
  have hen0 := hD.good.en0
  have hen1 := hD.good.en1
  have ht := hD.good.tot
  obtain ⟨x, s3, e3, p3, q3⟩ := wide_some hw (n := P.en + 1) s2 (a := a2) g1 (by omega) (by omega)
  obtain ⟨ws, a4, s4, hE4, g4⟩ := wants_ev hw (a2 + 2) s3 (by omega) (by omega)
  refine ⟨1 + p, P, x, ws, ?_, by omega, hD, p3, by omega, g4⟩
  simp only [spec_Profiles.f, e1, Option.bind_some]
  rw [w64 (a := 1 + p) (by omega) (by omega)]
  refine Ev.bind hE ?_
  simp only
  rw [w64 (a := P.en + 1) (by omega) (by omega)]
  refine bindc e3 ?_
  simp only
  exact Ev.bind hE4 (now_ rfl)
end
end Go.Proofs.YtanjbdgmnecacaaDoor.Pure
