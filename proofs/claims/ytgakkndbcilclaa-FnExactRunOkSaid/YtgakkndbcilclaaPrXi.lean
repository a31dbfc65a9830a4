/- Lists of ints: copied and compared. Condition: no longer than a law asks. -/
import Derived.Test.YtgakkndbcilclaaPBx18
import Derived.Test.YtgakkndbcilclaaPBx25
import Derived.Test.YtgakkndbcilclaaPrX
set_option linter.unusedVariables false
set_option linter.unusedSimpArgs false
namespace Go.Proofs.Ytgakkndbcilclaa.Pure
open Go.RowKit Go.Proofs.YtgakkndbcilclaaW.PrintWords Go.Proofs.YtgakkndbcilclaaW.PrintLast Go.Proofs.Ytgakkndbcilclaa.PB Go.Proofs.Ytgakkndbcilclaa.M
section
theorem ev_toIntS (l : List Int) (hl : l.length ≤ 2000000) : Ev (fun k => laws_toIntS.f k l) l := by
  have key : ∀ d i : Nat, i + d = l.length → ∀ x, Upto x l i → Ev (fun k => laws_toIntS.l0 k l x i) l := by
    intro d
    induction d with
    | zero =>
      intro i h0 x hx
      exact Ev.step (fun k => by rw [laws_toIntS.l0]) (neg_ (by omega) (now_ (hx.done (by omega))))
    | succ d ih =>
      intro i h0 x hx
      have hn := hx.1
      refine Ev.step (fun k => by rw [laws_toIntS.l0]) (pos_ (by omega) (pos_ (by omega) (pos_ (by omega) ?_)))
      rw [w64 (by omega) (by omega)]
      refine ih (i + 1) (by omega) _ (hx.set ?_)
      simp only [rd, Int.toNat_natCast]
      rw [List.getElem?_eq_getElem (by omega), List.getD_eq_getElem?_getD, List.getElem?_eq_getElem (by omega)]
      rfl
  simp only [laws_toIntS.f]
  refine pos_ (by omega) (pos_ (by omega) ?_)
  exact key l.length 0 (by omega) _ (Upto.zero (by simp))
theorem ev_eqIntS (l : List Int) (hl : l.length ≤ 2000000) : Ev (fun k => laws_eqIntS.f k l l) true := by
  have key : ∀ d i : Nat, i + d = l.length → Ev (fun k => laws_eqIntS.l0 k l l i) true := by
    intro d
    induction d with
    | zero => intro i h0; exact Ev.step (fun k => by rw [laws_eqIntS.l0]) (neg_ (by omega) (now_ rfl))
    | succ d ih =>
      intro i h0
      refine Ev.step (fun k => by rw [laws_eqIntS.l0]) (pos_ (by omega) (pos_ (by omega) (pos_ (by omega) (pos_ rfl ?_))))
      rw [w64 (by omega) (by omega)]
      exact ih (i + 1) (by omega)
  simp only [laws_eqIntS.f]
  exact pos_ trivial (key l.length 0 (by omega))
end
end Go.Proofs.Ytgakkndbcilclaa.Pure
