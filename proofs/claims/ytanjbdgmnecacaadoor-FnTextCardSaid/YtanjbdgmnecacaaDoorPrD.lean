/- Drawn profiles: what the reference draws out of bytes is a right profile, a place up to its end, and some wants. Condition: the bytes are bytes. -/
import Derived.Test.YtanjbdgmnecacaaDoorPTx0
import Derived.Test.YtanjbdgmnecacaaDoorPTx3
import Derived.Test.YtanjbdgmnecacaaDoorPTx4
import Derived.Test.YtanjbdgmnecacaaDoorPTx5
import Derived.Test.YtanjbdgmnecacaaDoorPTx10
import Derived.Test.YtanjbdgmnecacaaDoorPrB
set_option linter.unusedVariables false
set_option linter.unusedSimpArgs false
namespace Go.Proofs.YtanjbdgmnecacaaDoor.Pure
open Go.RowKit Go.Proofs.YtanjbdgmnecacaaDoorW.PrintWords Go.Proofs.YtanjbdgmnecacaaDoorW.PrintLast Go.Proofs.YtanjbdgmnecacaaDoor.PT Go.Proofs.YtanjbdgmnecacaaDoor.M
section
variable {l : List Int} (hw : ∀ x ∈ l, (Lit.int .u8 x).wf = true)
include hw
theorem byte_at {i : Int} (h0 : 0 ≤ i) (h1 : i < l.length) : 0 ≤ rd l i ∧ rd l i ≤ 255 := by
  have hq := hw _ (getD_mem' l i 0 h0 h1)
  have hq2 : (decide ((0 : Int) ≤ rd l i) && decide (rd l i ≤ (255 : Int))) = true := hq
  rw [Bool.and_eq_true, decide_eq_true_eq, decide_eq_true_eq] at hq2
  exact hq2
theorem next_some {a : Int} (s : Int) (h0 : 0 ≤ a) (h1 : a ≤ 1000000) : ∃ r s', spec_l6Cur_next.f l a s = some (r, a + 1, s') ∧ 0 ≤ r ∧ r ≤ 255 := by
  unfold spec_l6Cur_next.f
  have ha : wrap64 (a + 1) = a + 1 := w64 (by omega) (by omega)
  by_cases c : a < (l.length : Int)
  · rw [if_pos c, if_pos h0, ha]
    have hb := byte_at hw h0 c
    exact ⟨_, _, rfl, by rw [w64 (by omega) (by omega)]; exact hb.1, by rw [w64 (by omega) (by omega)]; exact hb.2⟩
  · rw [if_neg c, ha]
    generalize hz : IntKind.u64.wrap ((IntKind.u64.wrap (s * 6364136223846793005)) + 1442695040888963407) = z
    have hz2 : 0 ≤ z ∧ z < 18446744073709551616 := by
      rw [← hz]; simp [IntKind.wrap, IntKind.bits, IntKind.signed]; omega
    have hm : Go.bits .and .u64 (z / 1099511627776) 255 = (z / 1099511627776) % 256 :=
      Go.bits_mask .u64 32 (by decide) (fun n h2 h3 => by simp [IntKind.wrap, IntKind.bits, IntKind.signed]; omega) 8 (by decide) (z / 1099511627776) (by omega) (by omega)
    refine ⟨_, _, rfl, ?_, ?_⟩
    · rw [hm, w64 (by omega) (by omega)]; omega
    · rw [hm, w64 (by omega) (by omega)]; omega
theorem wide_some {a n : Int} (s : Int) (h0 : 0 ≤ a) (h1 : a ≤ 900000) (hn : 1 ≤ n) : ∃ r s', spec_l6Cur_wide.f l a s n = some (r, a + 2, s') ∧ 0 ≤ r ∧ r < n := by
  unfold spec_l6Cur_wide.f
  obtain ⟨r1, s1, e1, p1, q1⟩ := next_some hw s h0 (by omega)
  obtain ⟨r2, s2, e2, p2, q2⟩ := next_some hw (a := a + 1) s1 (by omega) (by omega)
  simp only [e1, e2, Option.bind_some]
  rw [if_neg (by omega), w64 (a := r1 * 256) (by omega) (by omega), w64 (a := r1 * 256 + r2) (by omega) (by omega), Int.tmod_eq_emod_of_nonneg (by omega), show a + 1 + 1 = a + 2 by omega]
  exact ⟨_, _, rfl, Int.emod_nonneg _ (by omega), Int.emod_lt_of_pos _ (by omega)⟩
theorem pick_some {a n : Int} (s : Int) (h0 : 0 ≤ a) (h1 : a ≤ 900000) (hn : 1 ≤ n) : ∃ r a' s', spec_l6Cur_pick.f l a s n = some (r, a', s') ∧ 0 ≤ r ∧ r < n ∧ a ≤ a' ∧ a' ≤ a + 2 := by
  unfold spec_l6Cur_pick.f
  by_cases c : n ≤ 1
  · rw [if_pos c]; exact ⟨0, a, s, rfl, by omega, by omega, by omega, by omega⟩
  rw [if_neg c]
  obtain ⟨r1, s1, e1, p1, q1⟩ := next_some hw s h0 (by omega)
  obtain ⟨r2, s2, e2, p2, q2⟩ := next_some hw (a := a + 1) s1 (by omega) (by omega)
  simp only [e1, e2, Option.bind_some]
  by_cases c2 : n > 200
  · rw [if_pos c2, if_neg (by omega), w64 (a := r1 * 256) (by omega) (by omega), w64 (a := r1 * 256 + r2) (by omega) (by omega), Int.tmod_eq_emod_of_nonneg (by omega)]
    exact ⟨_, _, _, rfl, Int.emod_nonneg _ (by omega), Int.emod_lt_of_pos _ (by omega), by omega, by omega⟩
  · rw [if_neg c2, if_neg (by omega), Int.tmod_eq_emod_of_nonneg (by omega)]
    exact ⟨_, _, _, rfl, Int.emod_nonneg _ (by omega), Int.emod_lt_of_pos _ (by omega), by omega, by omega⟩
theorem steep_some {a : Int} (s : Int) (h0 : 0 ≤ a) (h1 : a ≤ 900000) : ∃ r a' s', spec_l6Cur_steep.f l a s = some (r, a', s') ∧ 10 ≤ r ∧ r ≤ 29 ∧ a ≤ a' ∧ a' ≤ a + 2 := by
  unfold spec_l6Cur_steep.f
  obtain ⟨r1, a1, s1, e1, p1, q1, p2, q2⟩ := pick_some hw s h0 h1 (n := 20) (by omega)
  simp only [e1, Option.bind_some]
  exact ⟨_, _, _, rfl, by rw [w64 (by omega) (by omega)]; omega, by rw [w64 (by omega) (by omega)]; omega, p2, q2⟩
/-- what a drawn profile is -/
structure Drawn (sc : Int) (P : PR) : Prop where
  good : Good P
  n5 : P.ps.length ≤ 5
  t : tot P.ps ≤ 400 * sc
  z4 : P.zs.length ≤ 4
  d3 : P.de ≤ 3
  br : ∀ y ∈ P.ps, y.f1 ≤ 29
theorem dr_l1 (sc : Int) (hs0 : 1 ≤ sc) (hs1 : sc ≤ 30) (ps : List S49) (n1 : 1 ≤ ps.length) (n5 : ps.length ≤ 5) (hp : ∀ y ∈ ps, 1 ≤ y.f0 ∧ y.f0 ≤ 80 * sc ∧ 10 ≤ y.f1 ∧ y.f1 ≤ 29) (ht : tot ps ≤ 400 * sc) (d : Nat) :
    ∀ a s : Int, ∀ zs : List S56, zs.length + d ≤ 4 → (∀ z ∈ zs, 0 ≤ z.f0 ∧ z.f0 ≤ z.f1 ∧ z.f1 ≤ tot ps ∧ 1 ≤ z.f2 ∧ z.f2 ≤ 10000) → 0 ≤ a → a + 10 * d ≤ 800000 →
    ∃ P a' s', Ev (fun k => spec_l6Cur_profile.l1 k sc (tot ps) d l a s ps zs 0 0 0) (P.ps, P.zs, P.tr, P.en, P.de, a', s') ∧ Drawn sc P ∧ 0 ≤ a' ∧ a' ≤ a + 10 * d + 10 := by
  have hgp : GoodP ps := ⟨by omega, fun y hy => by have := hp y hy; omega⟩
  have htb := hgp.tot
  induction d with
  | zero =>
    intro a s zs h1 h2 h3 h4
    obtain ⟨tr, s1, e1, p1, q1⟩ := wide_some hw (n := 30 * sc) s h3 (by omega) (by omega)
    obtain ⟨w, s2, e2, p2, q2⟩ := wide_some hw (n := tot ps + 1) s1 (a := a + 2) (by omega) (by omega) (by omega)
    obtain ⟨p, a3, s3, e3, p3, q3, b3, c3⟩ := pick_some hw (n := 2) s2 (a := a + 2 + 2) (by omega) (by omega) (by omega)
    obtain ⟨de, a4, s4, e4, p4, q4, b4, c4⟩ := pick_some hw (n := 4) s3 (a := a3) (by omega) (by omega) (by omega)
    have m0 : 0 ≤ w * p := Int.mul_nonneg p2 p3
    have m1 : w * p ≤ tot ps * 1 := Int.mul_le_mul (by omega) (by omega) p3 (by omega)
    refine ⟨⟨ps, zs, tr, tot ps - w * p / 2, de⟩, a4, s4, ?_, ⟨⟨n1, hgp, by show zs.length ≤ 60; omega, h2, p1, by show tr ≤ 100000000; omega, by show 0 ≤ tot ps - w * p / 2; omega, by show tot ps - w * p / 2 ≤ tot ps; omega, p4, by show de ≤ 20; omega⟩, n5, ht, by show zs.length ≤ 4; omega, by show de ≤ 3; omega, fun y hy => (hp y hy).2.2.2⟩, by omega, by omega⟩
    refine Ev.step (fun k => by rw [spec_l6Cur_profile.l1]) (neg_ (by omega) ?_)
    rw [w64 (a := 30 * sc) (by omega) (by omega), w64 (a := tot ps + 1) (by omega) (by omega)]
    simp only [e1, e2, e3, e4, Option.bind_some]
    rw [w64 (a := w * p) (by omega) (by omega), Int.tdiv_eq_ediv_of_nonneg m0, w64 (a := w * p / 2) (by omega) (by omega), w64 (a := tot ps - w * p / 2) (by omega) (by omega)]
    exact now_ rfl
  | succ d ih =>
    intro a s zs h1 h2 h3 h4
    obtain ⟨z0, s1, e1, p1, q1⟩ := wide_some hw (n := tot ps + 1) s h3 (by omega) (by omega)
    obtain ⟨z1, s2, e2, p2, q2⟩ := wide_some hw (n := tot ps - z0 + 1) s1 (a := a + 2) (by omega) (by omega) (by omega)
    obtain ⟨z2, s3, e3, p3, q3⟩ := wide_some hw (n := 12 * sc) s2 (a := a + 2 + 2) (by omega) (by omega) (by omega)
    obtain ⟨P, a', s', hE, hD, g1, g2⟩ := ih (a + 2 + 2 + 2) s3 (zs ++ [⟨z0, z0 + z1, 1 + z2⟩]) (by simp; omega)
      (fun z hz => by
        rcases List.mem_append.mp hz with hz | hz
        · exact h2 z hz
        · rw [List.mem_singleton] at hz; subst hz
          exact ⟨p1, by show z0 ≤ z0 + z1; omega, by show z0 + z1 ≤ tot ps; omega, by show 1 ≤ 1 + z2; omega, by show 1 + z2 ≤ 10000; omega⟩) (by omega) (by omega)
    refine ⟨P, a', s', ?_, hD, g1, by omega⟩
    refine Ev.step (fun k => by rw [spec_l6Cur_profile.l1]) (pos_ (by omega) ?_)
    rw [w64 (a := tot ps + 1) (by omega) (by omega), w64 (a := 12 * sc) (by omega) (by omega)]
    simp only [e1, Option.bind_some]
    rw [w64 (a := tot ps - z0) (by omega) (by omega), w64 (a := tot ps - z0 + 1) (by omega) (by omega)]
    simp only [e2, e3, Option.bind_some]
    refine pos_ (by omega) ?_
    rw [w64 (a := z0 + z1) (by omega) (by omega), w64 (a := 1 + z2) (by omega) (by omega), w64 (a := ((d + 1 : Nat) : Int) - 1) (by omega) (by omega), show ((d + 1 : Nat) : Int) - 1 = d by omega]
    exact hE
theorem dr_l0 (sc : Int) (hs0 : 1 ≤ sc) (hs1 : sc ≤ 30) (d : Nat) :
    ∀ a s : Int, ∀ ps : List S49, 1 ≤ ps.length + d → ps.length + d ≤ 5 → (∀ y ∈ ps, 1 ≤ y.f0 ∧ y.f0 ≤ 80 * sc ∧ 10 ≤ y.f1 ∧ y.f1 ≤ 29) → tot ps ≤ 80 * sc * ps.length → 0 ≤ a → a + 10 * d ≤ 700000 →
    ∃ P a' s', Ev (fun k => spec_l6Cur_profile.l0 k sc (tot ps) d l a s ps 0 0 0) (P.ps, P.zs, P.tr, P.en, P.de, a', s') ∧ Drawn sc P ∧ 0 ≤ a' ∧ a' ≤ a + 10 * d + 60 := by
  induction d with
  | zero =>
    intro a s ps h1 h2 h3 h4 h5 h6
    obtain ⟨p, a3, s3, e3, p3, q3, b3, c3⟩ := pick_some hw (n := 5) s h5 (by omega) (by omega)
    have hm : 80 * sc * (ps.length : Int) ≤ 80 * sc * 5 := Int.mul_le_mul_of_nonneg_left (by omega) (by omega)
    obtain ⟨n, rfl⟩ : ∃ n : Nat, p = n := ⟨p.toNat, by omega⟩
    obtain ⟨P, a', s', hE, hD, g1, g2⟩ := dr_l1 hw sc hs0 hs1 ps (by omega) (by omega) h3 (by omega) n a3 s3 [] (by simp; omega) (fun z hz => by cases hz) (by omega) (by omega)
    refine ⟨P, a', s', ?_, hD, g1, by omega⟩
    refine Ev.step (fun k => by rw [spec_l6Cur_profile.l0]) (neg_ (by omega) ?_)
    simp only [e3, Option.bind_some]
    exact hE
  | succ d ih =>
    intro a s ps h1 h2 h3 h4 h5 h6
    obtain ⟨w, s1, e1, p1, q1⟩ := wide_some hw (n := 80 * sc) s h5 (by omega) (by omega)
    obtain ⟨b, a2, s2, e2, p2, q2, b2, c2⟩ := steep_some hw (a := a + 2) s1 (by omega) (by omega)
    have htb := tot_bounds ps (fun y hy => by have := h3 y hy; omega)
    have hm : 80 * sc * (ps.length : Int) ≤ 80 * sc * 5 := Int.mul_le_mul_of_nonneg_left (by omega) (by omega)
    have ht : tot (ps ++ [⟨1 + w, b⟩]) = tot ps + (1 + w) := by rw [tot_append]; simp [tot]
    obtain ⟨P, a', s', hE, hD, g1, g2⟩ := ih a2 s2 (ps ++ [⟨1 + w, b⟩]) (by simp; omega) (by simp; omega)
      (fun y hy => by
        rcases List.mem_append.mp hy with hy | hy
        · exact h3 y hy
        · rw [List.mem_singleton] at hy; subst hy
          exact ⟨by show 1 ≤ 1 + w; omega, by show 1 + w ≤ 80 * sc; omega, p2, q2⟩)
      (by rw [ht, List.length_append, Int.natCast_add, Int.mul_add]; simp; omega) (by omega) (by omega)
    refine ⟨P, a', s', ?_, hD, g1, by omega⟩
    refine Ev.step (fun k => by rw [spec_l6Cur_profile.l0]) (pos_ (by omega) ?_)
    rw [w64 (a := 80 * sc) (by omega) (by omega)]
    simp only [e1, e2, Option.bind_some]
    refine pos_ (by omega) ?_
    rw [w64 (a := 1 + w) (by omega) (by omega), w64 (a := tot ps + (1 + w)) (by omega) (by omega), w64 (a := ((d + 1 : Nat) : Int) - 1) (by omega) (by omega), show ((d + 1 : Nat) : Int) - 1 = d by omega, ← ht]
    exact hE
theorem dr_profile (sc : Int) (hs0 : 1 ≤ sc) (hs1 : sc ≤ 30) (a s : Int) (h0 : 0 ≤ a) (h1 : a ≤ 1000) :
    ∃ P a' s', Ev (fun k => spec_l6Cur_profile.f k l a s sc) (P.ps, P.zs, P.tr, P.en, P.de, a', s') ∧ Drawn sc P ∧ 0 ≤ a' ∧ a' ≤ a + 150 := by
  obtain ⟨p, a3, s3, e3, p3, q3, b3, c3⟩ := pick_some hw (n := 5) s h0 (by omega) (by omega)
  obtain ⟨n, hn⟩ : ∃ n : Nat, 1 + p = n := ⟨(1 + p).toNat, by omega⟩
  obtain ⟨P, a', s', hE, hD, g1, g2⟩ := dr_l0 hw sc hs0 hs1 n a3 s3 [] (by simp; omega) (by simp; omega) (fun z hz => by cases hz) (by simp [tot]) (by omega) (by omega)
  refine ⟨P, a', s', ?_, hD, g1, by omega⟩
  simp only [spec_l6Cur_profile.f, e3, Option.bind_some]
  rw [w64 (a := 1 + p) (by omega) (by omega), hn]
  exact hE
end
end Go.Proofs.YtanjbdgmnecacaaDoor.Pure
