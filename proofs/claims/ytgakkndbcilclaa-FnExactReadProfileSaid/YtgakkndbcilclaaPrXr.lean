/- A told profile: compared with itself, marked and read again. Condition: the lists are no longer than a text's. -/
import Derived.Test.YtgakkndbcilclaaPCx0
import Derived.Test.YtgakkndbcilclaaPCx11
import Derived.Test.YtgakkndbcilclaaPCx12
import Derived.Test.YtgakkndbcilclaaPCx13
import Derived.Test.YtgakkndbcilclaaPCx14
import Derived.Test.YtgakkndbcilclaaPCx15
import Derived.Test.YtgakkndbcilclaaPCx16
import Derived.Test.YtgakkndbcilclaaPCx17
import Derived.Test.YtgakkndbcilclaaPCx18
import Derived.Test.YtgakkndbcilclaaPCx19
import Derived.Test.YtgakkndbcilclaaPCx20
import Derived.Test.YtgakkndbcilclaaPrXu
set_option linter.unusedVariables false
set_option linter.unusedSimpArgs false
namespace Go.Proofs.Ytgakkndbcilclaa.Pure
open Go.RowKit Go.Proofs.YtgakkndbcilclaaW.PrintWords Go.Proofs.YtgakkndbcilclaaW.PrintLast Go.Proofs.Ytgakkndbcilclaa.PC Go.Proofs.Ytgakkndbcilclaa.M
section
theorem ev_eqPieceS (l : List S71) (hl : l.length ≤ 2000000) : Ev (fun k => laws_eqPieceS.f k l l) true := by
  have key : ∀ d i : Nat, i + d = l.length → Ev (fun k => laws_eqPieceS.l0 k l l i) true := by
    intro d
    induction d with
    | zero => intro i h0; exact Ev.step (fun k => by rw [laws_eqPieceS.l0]) (neg_ (by omega) (now_ rfl))
    | succ d ih =>
      intro i h0
      refine Ev.step (fun k => by rw [laws_eqPieceS.l0]) (pos_ (by omega) (pos_ (by omega) (pos_ (by omega) (bindc (show laws_eqPiece.f (rd_T71 l i).f0 (rd_T71 l i).f1 (rd_T71 l i).f0 (rd_T71 l i).f1 = some true by simp [laws_eqPiece.f]) ?_))))
      refine pos_ rfl ?_
      rw [w64 (by omega) (by omega)]
      exact ih (i + 1) (by omega)
  simp only [laws_eqPieceS.f]
  exact pos_ trivial (key l.length 0 (by omega))
theorem ev_eqZoneS (l : List S75) (hl : l.length ≤ 2000000) : Ev (fun k => laws_eqZoneS.f k l l) true := by
  have key : ∀ d i : Nat, i + d = l.length → Ev (fun k => laws_eqZoneS.l0 k l l i) true := by
    intro d
    induction d with
    | zero => intro i h0; exact Ev.step (fun k => by rw [laws_eqZoneS.l0]) (neg_ (by omega) (now_ rfl))
    | succ d ih =>
      intro i h0
      refine Ev.step (fun k => by rw [laws_eqZoneS.l0]) (pos_ (by omega) (pos_ (by omega) (pos_ (by omega) (bindc (show laws_eqZone.f (rd_T75 l i).f0 (rd_T75 l i).f1 (rd_T75 l i).f2 (rd_T75 l i).f0 (rd_T75 l i).f1 (rd_T75 l i).f2 = some true by simp [laws_eqZone.f]) ?_))))
      refine pos_ rfl ?_
      rw [w64 (by omega) (by omega)]
      exact ih (i + 1) (by omega)
  simp only [laws_eqZoneS.f]
  exact pos_ trivial (key l.length 0 (by omega))
theorem ev_eqProfile (ps : List S71) (zs : List S75) (hp : ps.length ≤ 2000000) (hz : zs.length ≤ 2000000) (a b c : Int) : Ev (fun k => laws_eqProfile.f k ps zs a b c ps zs a b c) true := by
  simp only [laws_eqProfile.f]
  exact Ev.bind (ev_eqPieceS ps hp) (pos_ rfl (Ev.bind (ev_eqZoneS zs hz) (pos_ rfl (pos_ trivial (pos_ trivial (pos_ trivial (now_ rfl)))))))
theorem ev_eqTold (r : Int × Int × (List S71) × (List S75) × Int × Int × Int) (hp : r.2.2.1.length ≤ 3000) (hz : r.2.2.2.1.length ≤ 3000) : Ev (fun k => laws_eqTold.f k r.1 r.2.1 r.2.2.1 r.2.2.2.1 r.2.2.2.2.1 r.2.2.2.2.2.1 r.2.2.2.2.2.2 r.1 r.2.1 r.2.2.1 r.2.2.2.1 r.2.2.2.2.1 r.2.2.2.2.2.1 r.2.2.2.2.2.2) true := by
  simp only [laws_eqTold.f]
  exact pos_ trivial (pos_ trivial (Ev.bind (ev_eqProfile _ _ (by omega) (by omega) _ _ _) (pos_ rfl (now_ rfl))))
def mkPc (n : Nat) : List S71 := (List.range n).map fun (i : Nat) => (⟨1 + 2 * (i : Int), 1 + 2 * (i : Int) + 1⟩ : S71)
theorem mkPc_len (n : Nat) : (mkPc n).length = n := by simp [mkPc]
theorem mkPc_at {n i : Nat} (h : i < n) : (mkPc n)[i]? = some ⟨1 + 2 * (i : Int), 1 + 2 * (i : Int) + 1⟩ := by
  simp [mkPc, h]
def mkZn (b : Int) (n : Nat) : List S75 := (List.range n).map fun (i : Nat) => (⟨b + 3 * (i : Int), b + 3 * (i : Int) + 1, b + 3 * (i : Int) + 2⟩ : S75)
theorem mkZn_len (b : Int) (n : Nat) : (mkZn b n).length = n := by simp [mkZn]
theorem mkZn_at {b : Int} {n i : Nat} (h : i < n) : (mkZn b n)[i]? = some ⟨b + 3 * (i : Int), b + 3 * (i : Int) + 1, b + 3 * (i : Int) + 2⟩ := by
  simp [mkZn, h]
theorem ev_markPieceS (l : List S71) (hl : l.length ≤ 2000000) : Ev (fun k => laws_markPieceS.f k l 1) (1 + 2 * (l.length : Int), mkPc l.length) := by
  have key : ∀ d i : Nat, ∀ x : List S71, i + d = l.length → Upto x (mkPc l.length) i → Ev (fun k => laws_markPieceS.l0 k x (1 + 2 * (i : Int)) i) (1 + 2 * (l.length : Int), mkPc l.length) := by
    intro d
    induction d with
    | zero =>
      intro i x h0 hx
      have hn := hx.1
      rw [mkPc_len] at hn
      exact Ev.step (fun k => by rw [laws_markPieceS.l0]) (neg_ (by omega) (now_ (by rw [hx.done (by rw [mkPc_len]; omega), show i = l.length by omega])))
    | succ d ih =>
      intro i x h0 hx
      have hn := hx.1
      rw [mkPc_len] at hn
      refine Ev.step (fun k => by rw [laws_markPieceS.l0]) (pos_ (by omega) (pos_ (by omega) (bindc (o := some (x.set (i : Int).toNat ⟨1 + 2 * (i : Int), (rd_T71 x i).f1⟩)) rfl ?_)))
      rw [w64 (a := 1 + 2 * (i : Int) + 1) (by omega) (by omega), w64 (a := 1 + 2 * (i : Int) + 1 + 1) (by omega) (by omega), w64 (a := (i : Int) + 1) (by omega) (by omega)]
      have e : rd_T71 (x.set (i : Int).toNat ⟨1 + 2 * (i : Int), (rd_T71 x i).f1⟩) i = ⟨1 + 2 * (i : Int), (rd_T71 x i).f1⟩ := by
        unfold rd_T71
        rw [List.getD_eq_getElem?_getD, Int.toNat_natCast, List.getElem?_set_self (by omega)]; rfl
      rw [e, Int.toNat_natCast, List.set_set]
      have := ih (i + 1) _ (by omega) (hx.set (mkPc_at (n := l.length) (i := i) (by omega)))
      rw [show 1 + 2 * (i : Int) + 1 + 1 = 1 + 2 * ((i + 1 : Nat) : Int) by omega]
      exact this
  simp only [laws_markPieceS.f]
  exact key l.length 0 l (by omega) (Upto.zero (by rw [mkPc_len]))
theorem ev_heldPieceS (n : Nat) (hl : n ≤ 2000000) : Ev (fun k => laws_heldPieceS.f k (mkPc n) 1) (1 + 2 * (n : Int)) := by
  have key : ∀ d i : Nat, i + d = n → Ev (fun k => laws_heldPieceS.l0 k (mkPc n) (1 + 2 * (i : Int)) i) (1 + 2 * (n : Int)) := by
    intro d
    induction d with
    | zero =>
      intro i h0
      exact Ev.step (fun k => by rw [laws_heldPieceS.l0]) (neg_ (by rw [mkPc_len]; omega) (now_ (by rw [show i = n by omega])))
    | succ d ih =>
      intro i h0
      have e : rd_T71 (mkPc n) i = ⟨1 + 2 * (i : Int), 1 + 2 * (i : Int) + 1⟩ := by
        unfold rd_T71
        rw [List.getD_eq_getElem?_getD, Int.toNat_natCast, mkPc_at (by omega)]; rfl
      refine Ev.step (fun k => by rw [laws_heldPieceS.l0, e]) (pos_ (by rw [mkPc_len]; omega) (pos_ (by omega) (pos_ rfl ?_)))
      rw [w64 (a := 1 + 2 * (i : Int) + 1) (by omega) (by omega), w64 (a := 1 + 2 * (i : Int) + 1 + 1) (by omega) (by omega), w64 (a := (i : Int) + 1) (by omega) (by omega)]
      refine pos_ rfl ?_
      have := ih (i + 1) (by omega)
      rw [show 1 + 2 * (i : Int) + 1 + 1 = 1 + 2 * ((i + 1 : Nat) : Int) by omega]
      exact this
  simp only [laws_heldPieceS.f]
  exact key n 0 (by omega)
theorem ev_markZoneS (l : List S75) (hl : l.length ≤ 2000000) (b : Int) (h0 : 0 ≤ b) (h1 : b ≤ 1000000000) : Ev (fun k => laws_markZoneS.f k l b) (b + 3 * (l.length : Int), mkZn b l.length) := by
  have key : ∀ d i : Nat, ∀ x : List S75, i + d = l.length → Upto x (mkZn b l.length) i → Ev (fun k => laws_markZoneS.l0 k x (b + 3 * (i : Int)) i) (b + 3 * (l.length : Int), mkZn b l.length) := by
    intro d
    induction d with
    | zero =>
      intro i x h0 hx
      have hn := hx.1
      rw [mkZn_len] at hn
      exact Ev.step (fun k => by rw [laws_markZoneS.l0]) (neg_ (by omega) (now_ (by rw [hx.done (by rw [mkZn_len]; omega), show i = l.length by omega])))
    | succ d ih =>
      intro i x h0 hx
      have hn := hx.1
      rw [mkZn_len] at hn
      have e1 : ∀ v : S75, rd_T75 (x.set i v) i = v := by
        intro v
        unfold rd_T75
        rw [List.getD_eq_getElem?_getD, Int.toNat_natCast, List.getElem?_set_self (by omega)]; rfl
      refine Ev.step (fun k => by rw [laws_markZoneS.l0]) (pos_ (by omega) (pos_ (by omega) (bindc (o := some (x.set (i : Int).toNat ⟨b + 3 * (i : Int), (rd_T75 x i).f1, (rd_T75 x i).f2⟩)) rfl ?_)))
      refine bindc rfl ?_
      simp only [Int.toNat_natCast, e1, List.set_set]
      rw [w64 (a := b + 3 * (i : Int) + 1) (by omega) (by omega), w64 (a := b + 3 * (i : Int) + 1 + 1) (by omega) (by omega), w64 (a := b + 3 * (i : Int) + 1 + 1 + 1) (by omega) (by omega), w64 (a := (i : Int) + 1) (by omega) (by omega)]
      have := ih (i + 1) _ (by omega) (hx.set (mkZn_at (b := b) (n := l.length) (i := i) (by omega)))
      rw [show b + 3 * (i : Int) + 1 + 1 + 1 = b + 3 * ((i + 1 : Nat) : Int) by omega, show b + 3 * (i : Int) + 1 + 1 = b + 3 * (i : Int) + 2 by omega]
      exact this
  simp only [laws_markZoneS.f]
  have := key l.length 0 l (by omega) (Upto.zero (by rw [mkZn_len]))
  simpa using this
theorem ev_heldZoneS (n : Nat) (hl : n ≤ 2000000) (b : Int) (h0 : 0 ≤ b) (h1 : b ≤ 1000000000) : Ev (fun k => laws_heldZoneS.f k (mkZn b n) b) (b + 3 * (n : Int)) := by
  have key : ∀ d i : Nat, i + d = n → Ev (fun k => laws_heldZoneS.l0 k (mkZn b n) (b + 3 * (i : Int)) i) (b + 3 * (n : Int)) := by
    intro d
    induction d with
    | zero =>
      intro i h0
      exact Ev.step (fun k => by rw [laws_heldZoneS.l0]) (neg_ (by rw [mkZn_len]; omega) (now_ (by rw [show i = n by omega])))
    | succ d ih =>
      intro i h0
      have e : rd_T75 (mkZn b n) i = ⟨b + 3 * (i : Int), b + 3 * (i : Int) + 1, b + 3 * (i : Int) + 2⟩ := by
        unfold rd_T75
        rw [List.getD_eq_getElem?_getD, Int.toNat_natCast, mkZn_at (by omega)]; rfl
      refine Ev.step (fun k => by rw [laws_heldZoneS.l0, e]) (pos_ (by rw [mkZn_len]; omega) (pos_ (by omega) (pos_ rfl ?_)))
      rw [w64 (a := b + 3 * (i : Int) + 1) (by omega) (by omega), w64 (a := b + 3 * (i : Int) + 1 + 1) (by omega) (by omega), w64 (a := b + 3 * (i : Int) + 1 + 1 + 1) (by omega) (by omega), w64 (a := (i : Int) + 1) (by omega) (by omega)]
      refine pos_ rfl (pos_ (by show b + 3 * (i : Int) + 2 = b + 3 * (i : Int) + 1 + 1; omega) ?_)
      have := ih (i + 1) (by omega)
      rw [show b + 3 * (i : Int) + 1 + 1 + 1 = b + 3 * ((i + 1 : Nat) : Int) by omega]
      exact this
  simp only [laws_heldZoneS.f]
  have := key n 0 (by omega)
  simpa using this
end
end Go.Proofs.Ytgakkndbcilclaa.Pure
