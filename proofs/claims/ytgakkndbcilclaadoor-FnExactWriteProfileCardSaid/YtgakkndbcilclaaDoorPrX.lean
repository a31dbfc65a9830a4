/- The copies that an exact law makes, and how it compares, marks and reads again: every copy is the list itself. No condition but the size that the law asks for. -/
import Derived.Test.YtgakkndbcilclaaDoorPAx0
import Derived.Test.YtgakkndbcilclaaDoorPAx1
import Derived.Test.YtgakkndbcilclaaDoorPAx6
import Derived.Test.YtgakkndbcilclaaDoorPAx7
import Derived.Test.YtgakkndbcilclaaDoorPAx14
import Derived.Test.YtgakkndbcilclaaDoorPAx15
import Derived.Test.YtgakkndbcilclaaDoorPAx16
import Derived.Test.YtgakkndbcilclaaDoorPAx17
import Derived.Test.YtgakkndbcilclaaDoorPAx18
import Derived.Test.YtgakkndbcilclaaDoorPrB
set_option linter.unusedVariables false
set_option linter.unusedSimpArgs false
namespace Go.Proofs.YtgakkndbcilclaaDoor.Pure
open Go.RowKit Go.Proofs.YtgakkndbcilclaaDoorW.PrintWords Go.Proofs.YtgakkndbcilclaaDoorW.PrintLast Go.Proofs.YtgakkndbcilclaaDoor.PA Go.Proofs.YtgakkndbcilclaaDoor.M
section
variable {α : Type}
/-- Filled up to a place. -/
def Upto (x L : List α) (i : Nat) : Prop := x.length = L.length ∧ ∀ j, j < i → x[j]? = L[j]?
theorem Upto.zero {x L : List α} (h : x.length = L.length) : Upto x L 0 := ⟨h, fun j hj => absurd hj (Nat.not_lt_zero j)⟩
theorem Upto.done {x L : List α} {i : Nat} (h : Upto x L i) (hi : i = L.length) : x = L := by
  refine List.ext_getElem? fun j => ?_
  by_cases c : j < i
  · exact h.2 j c
  · rw [List.getElem?_eq_none (by have := h.1; omega), List.getElem?_eq_none (by omega)]
theorem Upto.set {x L : List α} {i : Nat} {v : α} (h : Upto x L i) (hv : L[i]? = some v) : Upto (x.set i v) L (i + 1) := by
  refine ⟨by simpa using h.1, fun j hj => ?_⟩
  have hi := (List.getElem?_eq_some_iff.1 hv).1
  by_cases c : i = j
  · subst c; rw [hv, List.getElem?_set_self (by have := h.1; omega)]
  · rw [List.getElem?_set_ne c]; exact h.2 j (by omega)
end
section
def cpP (l : List S60) : List S39 := l.map fun p => ⟨p.f0, p.f1⟩
def cpZ (l : List S62) : List S42 := l.map fun p => ⟨p.f0, p.f1, p.f2⟩
theorem cpP_len (l : List S60) : (cpP l).length = l.length := by simp [cpP]
theorem cpZ_len (l : List S62) : (cpZ l).length = l.length := by simp [cpZ]
theorem ev_toPieceS (l : List S60) (hl : l.length ≤ 2000000) : Ev (fun k => laws_toPieceS.f k l) (cpP l) := by
  have key : ∀ d i : Nat, i + d = l.length → ∀ x, Upto x (cpP l) i → Ev (fun k => laws_toPieceS.l0 k l x i) (cpP l) := by
    intro d
    induction d with
    | zero =>
      intro i h0 x hx
      exact Ev.step (fun k => by rw [laws_toPieceS.l0]) (neg_ (by omega) (now_ (hx.done (by rw [cpP_len]; omega))))
    | succ d ih =>
      intro i h0 x hx
      have hn := hx.1
      rw [cpP_len] at hn
      refine Ev.step (fun k => by rw [laws_toPieceS.l0]) (pos_ (by omega) (pos_ (by omega) (bindc (show laws_toPiece.f (rd_T60 l i).f0 (rd_T60 l i).f1 = some ((rd_T60 l i).f0, (rd_T60 l i).f1) from rfl) ?_)))
      refine pos_ (by omega) ?_
      rw [w64 (by omega) (by omega)]
      refine ih (i + 1) (by omega) _ (hx.set ?_)
      simp only [cpP, List.getElem?_map, rd_T60, Int.toNat_natCast]
      rw [List.getElem?_eq_getElem (by omega), List.getD_eq_getElem?_getD, List.getElem?_eq_getElem (by omega)]
      rfl
  simp only [laws_toPieceS.f]
  refine pos_ (by omega) (pos_ (by omega) ?_)
  exact key l.length 0 (by omega) _ (Upto.zero (by rw [cpP_len]; simp))
theorem ev_toZoneS (l : List S62) (hl : l.length ≤ 2000000) : Ev (fun k => laws_toZoneS.f k l) (cpZ l) := by
  have key : ∀ d i : Nat, i + d = l.length → ∀ x, Upto x (cpZ l) i → Ev (fun k => laws_toZoneS.l0 k l x i) (cpZ l) := by
    intro d
    induction d with
    | zero =>
      intro i h0 x hx
      exact Ev.step (fun k => by rw [laws_toZoneS.l0]) (neg_ (by omega) (now_ (hx.done (by rw [cpZ_len]; omega))))
    | succ d ih =>
      intro i h0 x hx
      have hn := hx.1
      rw [cpZ_len] at hn
      refine Ev.step (fun k => by rw [laws_toZoneS.l0]) (pos_ (by omega) (pos_ (by omega) (bindc (show laws_toZone.f (rd_T62 l i).f0 (rd_T62 l i).f1 (rd_T62 l i).f2 = some ((rd_T62 l i).f0, (rd_T62 l i).f1, (rd_T62 l i).f2) from rfl) ?_)))
      refine pos_ (by omega) ?_
      rw [w64 (by omega) (by omega)]
      refine ih (i + 1) (by omega) _ (hx.set ?_)
      simp only [cpZ, List.getElem?_map, rd_T62, Int.toNat_natCast]
      rw [List.getElem?_eq_getElem (by omega), List.getD_eq_getElem?_getD, List.getElem?_eq_getElem (by omega)]
      rfl
  simp only [laws_toZoneS.f]
  refine pos_ (by omega) (pos_ (by omega) ?_)
  exact key l.length 0 (by omega) _ (Upto.zero (by rw [cpZ_len]; simp))
variable {l0 : List S60} {l1 : List S62}
theorem ev_toProfile (h0 : l0.length ≤ 2000000) (h1 : l1.length ≤ 2000000) (a b c : Int) : Ev (fun k => laws_toProfile.f k l0 l1 a b c) (cpP l0, cpZ l1, a, b, c) := by
  simp only [laws_toProfile.f]
  exact Ev.bind (ev_toPieceS l0 h0) (Ev.bind (ev_toZoneS l1 h1) (now_ rfl))
theorem ev_eqPieceS (l : List S39) (hl : l.length ≤ 2000000) : Ev (fun k => laws_eqPieceS.f k l l) true := by
  have key : ∀ d i : Nat, i + d = l.length → Ev (fun k => laws_eqPieceS.l0 k l l i) true := by
    intro d
    induction d with
    | zero => intro i h0; exact Ev.step (fun k => by rw [laws_eqPieceS.l0]) (neg_ (by omega) (now_ rfl))
    | succ d ih =>
      intro i h0
      refine Ev.step (fun k => by rw [laws_eqPieceS.l0]) (pos_ (by omega) (pos_ (by omega) (pos_ (by omega) (bindc (show laws_eqPiece.f (rd_T39 l i).f0 (rd_T39 l i).f1 (rd_T39 l i).f0 (rd_T39 l i).f1 = some true by simp [laws_eqPiece.f]) ?_))))
      refine pos_ rfl ?_
      rw [w64 (by omega) (by omega)]
      exact ih (i + 1) (by omega)
  simp only [laws_eqPieceS.f]
  exact pos_ trivial (key l.length 0 (by omega))
theorem ev_eqZoneS (l : List S42) (hl : l.length ≤ 2000000) : Ev (fun k => laws_eqZoneS.f k l l) true := by
  have key : ∀ d i : Nat, i + d = l.length → Ev (fun k => laws_eqZoneS.l0 k l l i) true := by
    intro d
    induction d with
    | zero => intro i h0; exact Ev.step (fun k => by rw [laws_eqZoneS.l0]) (neg_ (by omega) (now_ rfl))
    | succ d ih =>
      intro i h0
      refine Ev.step (fun k => by rw [laws_eqZoneS.l0]) (pos_ (by omega) (pos_ (by omega) (pos_ (by omega) (bindc (show laws_eqZone.f (rd_T42 l i).f0 (rd_T42 l i).f1 (rd_T42 l i).f2 (rd_T42 l i).f0 (rd_T42 l i).f1 (rd_T42 l i).f2 = some true by simp [laws_eqZone.f]) ?_))))
      refine pos_ rfl ?_
      rw [w64 (by omega) (by omega)]
      exact ih (i + 1) (by omega)
  simp only [laws_eqZoneS.f]
  exact pos_ trivial (key l.length 0 (by omega))
theorem ev_eqProfile (ps : List S39) (zs : List S42) (hp : ps.length ≤ 2000000) (hz : zs.length ≤ 2000000) (a b c : Int) : Ev (fun k => laws_eqProfile.f k ps zs a b c ps zs a b c) true := by
  simp only [laws_eqProfile.f]
  exact Ev.bind (ev_eqPieceS ps hp) (pos_ rfl (Ev.bind (ev_eqZoneS zs hz) (pos_ rfl (pos_ trivial (pos_ trivial (pos_ trivial (now_ rfl)))))))
/-- Is it of a size that the law takes? -/
theorem sz_or (l0 : List S60) (l1 : List S62) (a b c : Int) (h0 : l0.length ≤ 10000000000000) (h1 : l1.length ≤ 10000000000000) :
    laws_szProfile.f l0 l1 a b c 1048576 = some (-1) ∨ ∃ t, laws_szProfile.f l0 l1 a b c 1048576 = some t ∧ 0 ≤ t ∧ l0.length ≤ 1048576 ∧ l1.length ≤ 1048576 := by
  simp only [laws_szProfile.f, laws_szPieceS.f, laws_szZoneS.f]
  rw [w64 (a := 1048576 - (l0.length : Int)) (by omega) (by omega)]
  by_cases c1 : 1048576 - (l0.length : Int) < 0
  · rw [if_pos c1]; exact .inl rfl
  · rw [if_neg c1]
    simp only [Option.bind_some]
    rw [if_neg c1, w64 (by omega) (by omega)]
    by_cases c2 : 1048576 - (l0.length : Int) - (l1.length : Int) < 0
    · rw [if_pos c2]; exact .inl rfl
    · rw [if_neg c2]
      simp only [Option.bind_some]
      rw [if_neg c2]
      exact .inr ⟨_, rfl, by omega, by omega, by omega⟩
end
end Go.Proofs.YtgakkndbcilclaaDoor.Pure
