/- The reference's Safe is the same plain function as the program's. No condition. -/
import Derived.Test.YtanjbdgmnecacaaPRx19
import Derived.Test.YtanjbdgmnecacaaPrC
set_option linter.unusedVariables false
set_option linter.unusedSimpArgs false
namespace Go.Proofs.Ytanjbdgmnecacaa.Pure
open Go.RowKit Go.Proofs.YtanjbdgmnecacaaW.PrintWords Go.Proofs.YtanjbdgmnecacaaW.PrintLast Go.Proofs.Ytanjbdgmnecacaa.PR Go.Proofs.Ytanjbdgmnecacaa.M
theorem ev_sSafe {P : PR} (x v : Int) : Ev (fun k => spec_Safe.f k P.ps P.zs P.tr P.en P.de x v) (P.safe x v) := by
  simp only [spec_Safe.f]
  refine Ev.bind ev_l3good ?_
  unfold PR.safe
  by_cases c : (P.okB x && (decide (0 ≤ v) && decide (v ≤ 10000))) = true
  · rw [c, Bool.true_and]
    rw [Bool.and_eq_true, Bool.and_eq_true] at c
    have ho := okB_iff.mp c.1
    exact pos_ rfl (Ev.bind (ev_l3safe ho.1 ho.2.1 (ok_le ho) (of_decide_eq_true c.2.1) (of_decide_eq_true c.2.2)) (now_ rfl))
  · rw [Bool.not_eq_true] at c
    rw [c, Bool.false_and]
    exact neg_ (by decide) (now_ rfl)
end Go.Proofs.Ytanjbdgmnecacaa.Pure
