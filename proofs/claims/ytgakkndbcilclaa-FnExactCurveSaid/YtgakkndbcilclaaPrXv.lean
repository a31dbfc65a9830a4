/- Points: compared with themselves, marked and read again. Condition: the list is no longer than a curve. -/
import Derived.Test.YtgakkndbcilclaaPAx0
import Derived.Test.YtgakkndbcilclaaPAx41
import Derived.Test.YtgakkndbcilclaaPAx42
import Derived.Test.YtgakkndbcilclaaPAx45
import Derived.Test.YtgakkndbcilclaaPAx46
import Derived.Test.YtgakkndbcilclaaPrXm
set_option linter.unusedVariables false
set_option linter.unusedSimpArgs false
namespace Go.Proofs.Ytgakkndbcilclaa.Pure
open Go.RowKit Go.Proofs.YtgakkndbcilclaaW.PrintWords Go.Proofs.YtgakkndbcilclaaW.PrintLast Go.Proofs.Ytgakkndbcilclaa.PA Go.Proofs.Ytgakkndbcilclaa.M
section
theorem ev_eqPointS (l : List S98) (hl : l.length ≤ 2000000) : Ev (fun k => laws_eqPointS.f k l l) true := by
  have key : ∀ d i : Nat, i + d = l.length → Ev (fun k => laws_eqPointS.l0 k l l i) true := by
    intro d
    induction d with
    | zero => intro i h0; exact Ev.step (fun k => by rw [laws_eqPointS.l0]) (neg_ (by omega) (now_ rfl))
    | succ d ih =>
      intro i h0
      refine Ev.step (fun k => by rw [laws_eqPointS.l0]) (pos_ (by omega) (pos_ (by omega) (pos_ (by omega) (bindc (show laws_eqPoint.f (rd_T98 l i).f0 (rd_T98 l i).f1 (rd_T98 l i).f0 (rd_T98 l i).f1 = some true by simp [laws_eqPoint.f]) ?_))))
      refine pos_ rfl ?_
      rw [w64 (by omega) (by omega)]
      exact ih (i + 1) (by omega)
  simp only [laws_eqPointS.f]
  exact pos_ trivial (key l.length 0 (by omega))
def mkPt (n : Nat) : List S98 := (List.range n).map fun (i : Nat) => (⟨1 + 2 * (i : Int), 1 + 2 * (i : Int) + 1⟩ : S98)
theorem mkPt_len (n : Nat) : (mkPt n).length = n := by simp [mkPt]
theorem mkPt_at {n i : Nat} (h : i < n) : (mkPt n)[i]? = some ⟨1 + 2 * (i : Int), 1 + 2 * (i : Int) + 1⟩ := by
  simp [mkPt, h]
theorem ev_markPointS (l : List S98) (hl : l.length ≤ 2000000) : Ev (fun k => laws_markPointS.f k l 1) (1 + 2 * (l.length : Int), mkPt l.length) := by
  have key : ∀ d i : Nat, ∀ x : List S98, i + d = l.length → Upto x (mkPt l.length) i → Ev (fun k => laws_markPointS.l0 k x (1 + 2 * (i : Int)) i) (1 + 2 * (l.length : Int), mkPt l.length) := by
    intro d
    induction d with
    | zero =>
      intro i x h0 hx
      have hn := hx.1
      rw [mkPt_len] at hn
      exact Ev.step (fun k => by rw [laws_markPointS.l0]) (neg_ (by omega) (now_ (by rw [hx.done (by rw [mkPt_len]; omega), show i = l.length by omega])))
    | succ d ih =>
      intro i x h0 hx
      have hn := hx.1
      rw [mkPt_len] at hn
      refine Ev.step (fun k => by rw [laws_markPointS.l0]) (pos_ (by omega) (pos_ (by omega) (bindc (o := some (x.set (i : Int).toNat ⟨1 + 2 * (i : Int), (rd_T98 x i).f1⟩)) rfl ?_)))
      rw [w64 (a := 1 + 2 * (i : Int) + 1) (by omega) (by omega), w64 (a := 1 + 2 * (i : Int) + 1 + 1) (by omega) (by omega), w64 (a := (i : Int) + 1) (by omega) (by omega)]
      have e : rd_T98 (x.set (i : Int).toNat ⟨1 + 2 * (i : Int), (rd_T98 x i).f1⟩) i = ⟨1 + 2 * (i : Int), (rd_T98 x i).f1⟩ := by
        unfold rd_T98
        rw [List.getD_eq_getElem?_getD, Int.toNat_natCast, List.getElem?_set_self (by omega)]; rfl
      rw [e, Int.toNat_natCast, List.set_set]
      have := ih (i + 1) _ (by omega) (hx.set (mkPt_at (n := l.length) (i := i) (by omega)))
      rw [show 1 + 2 * (i : Int) + 1 + 1 = 1 + 2 * ((i + 1 : Nat) : Int) by omega]
      exact this
  simp only [laws_markPointS.f]
  exact key l.length 0 l (by omega) (Upto.zero (by rw [mkPt_len]))
theorem ev_heldPointS (n : Nat) (hl : n ≤ 2000000) : Ev (fun k => laws_heldPointS.f k (mkPt n) 1) (1 + 2 * (n : Int)) := by
  have key : ∀ d i : Nat, i + d = n → Ev (fun k => laws_heldPointS.l0 k (mkPt n) (1 + 2 * (i : Int)) i) (1 + 2 * (n : Int)) := by
    intro d
    induction d with
    | zero =>
      intro i h0
      exact Ev.step (fun k => by rw [laws_heldPointS.l0]) (neg_ (by rw [mkPt_len]; omega) (now_ (by rw [show i = n by omega])))
    | succ d ih =>
      intro i h0
      have e : rd_T98 (mkPt n) i = ⟨1 + 2 * (i : Int), 1 + 2 * (i : Int) + 1⟩ := by
        unfold rd_T98
        rw [List.getD_eq_getElem?_getD, Int.toNat_natCast, mkPt_at (by omega)]; rfl
      refine Ev.step (fun k => by rw [laws_heldPointS.l0, e]) (pos_ (by rw [mkPt_len]; omega) (pos_ (by omega) (pos_ rfl ?_)))
      rw [w64 (a := 1 + 2 * (i : Int) + 1) (by omega) (by omega), w64 (a := 1 + 2 * (i : Int) + 1 + 1) (by omega) (by omega), w64 (a := (i : Int) + 1) (by omega) (by omega)]
      refine pos_ rfl ?_
      have := ih (i + 1) (by omega)
      rw [show 1 + 2 * (i : Int) + 1 + 1 = 1 + 2 * ((i + 1 : Nat) : Int) by omega]
      exact this
  simp only [laws_heldPointS.f]
  exact key n 0 (by omega)
end
end Go.Proofs.Ytgakkndbcilclaa.Pure
