/- At every text the law FnExactReadProfile answers true: both codes come to one result, what is marked in it is read again, and another call tells the same. Condition: the text's length is such as fits into memory. -/
import Derived.Test.YtgakkndbcilclaaPCx0
import Derived.Test.YtgakkndbcilclaaPCx18
import Derived.Test.YtgakkndbcilclaaPCx19
import Derived.Test.YtgakkndbcilclaaPCx21
import Derived.Test.YtgakkndbcilclaaPCx22
import Derived.Test.YtgakkndbcilclaaPrXr
import Derived.Test.YtgakkndbcilclaaPrLx
set_option linter.unusedVariables false
set_option linter.unusedSimpArgs false
namespace Go.Proofs.Ytgakkndbcilclaa.Pure
open Go.RowKit Go.Proofs.YtgakkndbcilclaaW.PrintWords Go.Proofs.YtgakkndbcilclaaW.PrintLast Go.Proofs.Ytgakkndbcilclaa.PC Go.Proofs.Ytgakkndbcilclaa.M
section
theorem ev_markTold (r : Int × Int × (List S71) × (List S75) × Int × Int × Int) (hp : r.2.2.1.length ≤ 3000) (hz : r.2.2.2.1.length ≤ 3000) :
    Ev (fun k => laws_markTold.f k r.1 r.2.1 r.2.2.1 r.2.2.2.1 r.2.2.2.2.1 r.2.2.2.2.2.1 r.2.2.2.2.2.2 1) (1 + 2 * (r.2.2.1.length : Int) + 3 * (r.2.2.2.1.length : Int), mkPc r.2.2.1.length, mkZn (1 + 2 * (r.2.2.1.length : Int)) r.2.2.2.1.length) := by
  simp only [laws_markTold.f, laws_markProfile.f]
  exact Ev.bind (Ev.bind (ev_markPieceS _ (by omega)) (Ev.bind (ev_markZoneS _ (by omega) _ (by simp only; omega) (by simp only; omega)) (now_ rfl))) (now_ rfl)
theorem ev_heldTold (n m : Nat) (hn : n ≤ 3000) (hm : m ≤ 3000) (x y a b c : Int) :
    Ev (fun k => laws_heldTold.f k x y (mkPc n) (mkZn (1 + 2 * (n : Int)) m) a b c 1) (1 + 2 * (n : Int) + 3 * (m : Int)) := by
  simp only [laws_heldTold.f, laws_heldProfile.f]
  refine Ev.bind (Ev.bind (ev_heldPieceS n (by omega)) (neg_ (by omega) (Ev.bind (ev_heldZoneS m (by omega) _ (by omega) (by omega)) (neg_ (by omega) (now_ rfl))))) ?_
  exact neg_ (by omega) (now_ rfl)
theorem FnExactReadProfile : laws_FnExactReadProfile.Pure := by
  intro t ht
  refine Ev.rounds ?_
  simp only [laws_FnExactReadProfile.f]
  by_cases hc : (t.size : Int) > 1048576
  · exact pos_ hc (now_ rfl)
  refine neg_ hc ?_
  obtain ⟨r, h1, h2, h3, h4⟩ := reads t
  have he := ev_eqTold r h3 h4
  have hm := ev_markTold r h3 h4
  have hd := ev_heldTold r.2.2.1.length r.2.2.2.1.length h3 h4 r.1 r.2.1 r.2.2.2.2.1 r.2.2.2.2.2.1 r.2.2.2.2.2.2
  refine Ev.bind h1 (Ev.bind h2 (Ev.bind he (pos_ rfl (Ev.bind hm (Ev.bind hd (neg_ (by omega) (pos_ rfl ?_)))))))
  exact Ev.bind h2 (Ev.bind he (pos_ rfl (Ev.bind hd (neg_ (by omega) (pos_ rfl (now_ rfl))))))
end
end Go.Proofs.Ytgakkndbcilclaa.Pure
