/- Marking and reading the marks: what is written is read again. Condition: the lists are no longer than the laws ask. -/
import Derived.Test.YtgakkndbcilclaaPGx0
import Derived.Test.YtgakkndbcilclaaPGx10
import Derived.Test.YtgakkndbcilclaaPGx11
import Derived.Test.YtgakkndbcilclaaPrX
set_option linter.unusedVariables false
set_option linter.unusedSimpArgs false
namespace Go.Proofs.Ytgakkndbcilclaa.Pure
open Go.RowKit Go.Proofs.YtgakkndbcilclaaW.PrintWords Go.Proofs.YtgakkndbcilclaaW.PrintLast Go.Proofs.Ytgakkndbcilclaa.PG Go.Proofs.Ytgakkndbcilclaa.M
section
theorem ev_markPieceS (l : List S71) (hl : l.length ≤ 2000000) (a : Int) (ha : 0 ≤ a) (ha2 : a ≤ 1000000000) : ∃ l', Ev (fun k => laws_markPieceS.f k l a) (a + 2 * l.length, l') := by
  have key : ∀ d i : Nat, ∀ x : List S71, ∀ b : Int, i + d = x.length → x.length ≤ 2000000 → 0 ≤ b → b + 2 * d ≤ 1100000000 → ∃ l', Ev (fun k => laws_markPieceS.l0 k x b i) (b + 2 * d, l') := by
    intro d
    induction d with
    | zero => intro i x b h0 _ h1 h2; exact ⟨x, Ev.step (fun k => by rw [laws_markPieceS.l0]) (neg_ (by omega) (now_ (by simp)))⟩
    | succ d ih =>
      intro i x b h0 h3 h1 h2
      obtain ⟨l', h⟩ := ih (i + 1) ((x.set i ⟨b, (rd_T71 x i).f1⟩).set i ⟨(rd_T71 (x.set i ⟨b, (rd_T71 x i).f1⟩) i).f0, b + 1⟩) (b + 2) (by simp; omega) (by simp; omega) (by omega) (by omega)
      refine ⟨l', Ev.step (fun k => by rw [laws_markPieceS.l0]) (pos_ (by omega) (pos_ (by omega) (bindc (o := some (x.set (i : Int).toNat ⟨b, (rd_T71 x i).f1⟩)) rfl ?_)))⟩
      rw [w64 (a := b + 1) (by omega) (by omega), w64 (a := b + 1 + 1) (by omega) (by omega), w64 (a := (i : Int) + 1) (by omega) (by omega)]
      rw [show b + 2 * ((d + 1 : Nat) : Int) = b + 2 + 2 * (d : Int) by omega, show b + 1 + 1 = b + 2 by omega]
      exact h
  simp only [laws_markPieceS.f]
  exact key l.length 0 l a (by omega) hl ha (by omega)
theorem ev_markZoneS (l : List S75) (hl : l.length ≤ 2000000) (a : Int) (ha : 0 ≤ a) (ha2 : a ≤ 1000000000) : ∃ l', Ev (fun k => laws_markZoneS.f k l a) (a + 3 * l.length, l') := by
  have key : ∀ d i : Nat, ∀ x : List S75, ∀ b : Int, i + d = x.length → x.length ≤ 2000000 → 0 ≤ b → b + 3 * d ≤ 1100000000 → ∃ l', Ev (fun k => laws_markZoneS.l0 k x b i) (b + 3 * d, l') := by
    intro d
    induction d with
    | zero => intro i x b h0 _ h1 h2; exact ⟨x, Ev.step (fun k => by rw [laws_markZoneS.l0]) (neg_ (by omega) (now_ (by simp)))⟩
    | succ d ih =>
      intro i x b h0 h3 h1 h2
      let y : List S75 := x.set i ⟨b, (rd_T75 x i).f1, (rd_T75 x i).f2⟩
      let z : List S75 := y.set i ⟨(rd_T75 y i).f0, b + 1, (rd_T75 y i).f2⟩
      obtain ⟨l', h⟩ := ih (i + 1) (z.set i ⟨(rd_T75 z i).f0, (rd_T75 z i).f1, b + 2⟩) (b + 3) (by simp [z, y]; omega) (by simp [z, y]; omega) (by omega) (by omega)
      refine ⟨l', Ev.step (fun k => by rw [laws_markZoneS.l0]) (pos_ (by omega) (pos_ (by omega) (bindc (o := some (x.set (i : Int).toNat ⟨b, (rd_T75 x i).f1, (rd_T75 x i).f2⟩)) rfl ?_)))⟩
      refine bindc rfl ?_
      rw [w64 (a := b + 1) (by omega) (by omega), w64 (a := b + 1 + 1) (by omega) (by omega), w64 (a := b + 1 + 1 + 1) (by omega) (by omega), w64 (a := (i : Int) + 1) (by omega) (by omega)]
      rw [show b + 3 * ((d + 1 : Nat) : Int) = b + 3 + 3 * (d : Int) by omega, show b + 1 + 1 + 1 = b + 3 by omega, show b + 1 + 1 = b + 2 by omega]
      exact h
  simp only [laws_markZoneS.f]
  exact key l.length 0 l a (by omega) hl ha (by omega)
theorem ev_markProfile (ps : List S71) (zs : List S75) (hp : ps.length ≤ 2000000) (hz : zs.length ≤ 2000000) (a b c : Int) : ∃ r, Ev (fun k => laws_markProfile.f k ps zs a b c 1) r ∧ 1 ≤ r.1 ∧ r.1 ≤ 100000000 := by
  simp only [laws_markProfile.f]
  obtain ⟨l1, h1⟩ := ev_markPieceS ps hp 1 (by omega) (by omega)
  obtain ⟨l2, h2⟩ := ev_markZoneS zs hz (1 + 2 * ps.length) (by omega) (by omega)
  exact ⟨_, Ev.bind h1 (Ev.bind h2 (now_ rfl)), by simp only; omega, by simp only; omega⟩
end
end Go.Proofs.Ytgakkndbcilclaa.Pure
