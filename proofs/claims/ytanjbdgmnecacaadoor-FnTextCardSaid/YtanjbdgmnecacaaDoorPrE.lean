/- Comparing lists and profiles with themselves; the limit that the laws tell. No condition. -/
import Derived.Test.YtanjbdgmnecacaaDoorPTx21
import Derived.Test.YtanjbdgmnecacaaDoorPrB
set_option linter.unusedVariables false
set_option linter.unusedSimpArgs false
namespace Go.Proofs.YtanjbdgmnecacaaDoor.Pure
open Go.RowKit Go.Proofs.YtanjbdgmnecacaaDoorW.PrintWords Go.Proofs.YtanjbdgmnecacaaDoorW.PrintLast Go.Proofs.YtanjbdgmnecacaaDoor.PT Go.Proofs.YtanjbdgmnecacaaDoor.M
section
theorem ev_wProfile (P : PR) (h1 : P.ps.length ≤ 1000000) (h2 : P.zs.length ≤ 1000000) : Ev (fun k => laws_wProfile.f k P.ps P.zs P.tr P.en P.de P.ps P.zs P.tr P.en P.de) true := by
  have k1 : ∀ d : Nat, ∀ i : Int, 0 ≤ i → i + d = P.zs.length → Ev (fun k => laws_wProfile.l1 k P.zs.length i P.ps P.zs P.tr P.en P.de P.ps P.zs P.tr P.en P.de) true := by
    intro d
    induction d with
    | zero => intro i h0 h1; exact Ev.step (fun k => by rw [laws_wProfile.l1]) (neg_ (by omega) (now_ rfl))
    | succ d ih =>
      intro i h0 h3
      refine Ev.step (fun k => by rw [laws_wProfile.l1]) (pos_ (by omega) (pos_ h0 (pos_ (by omega) (pos_ (by omega) (neg_ (by simp) ?_)))))
      rw [w64 (by omega) (by omega)]
      exact ih (i + 1) (by omega) (by omega)
  have k0 : ∀ d : Nat, ∀ i : Int, 0 ≤ i → i + d = P.ps.length → Ev (fun k => laws_wProfile.l0 k P.ps.length i P.ps P.zs P.tr P.en P.de P.ps P.zs P.tr P.en P.de) true := by
    intro d
    induction d with
    | zero => intro i h0 h3; exact Ev.step (fun k => by rw [laws_wProfile.l0]) (neg_ (by omega) (k1 P.zs.length 0 (by omega) (by omega)))
    | succ d ih =>
      intro i h0 h3
      refine Ev.step (fun k => by rw [laws_wProfile.l0]) (pos_ (by omega) (pos_ h0 (pos_ (by omega) (pos_ (by omega) (neg_ (by simp) ?_)))))
      rw [w64 (by omega) (by omega)]
      exact ih (i + 1) (by omega) (by omega)
  simp only [laws_wProfile.f]
  refine pos_ trivial (pos_ trivial (pos_ trivial (pos_ trivial ?_)))
  rw [show (P.de != P.de) = false by simp]
  exact Ev.step (fun k => by rw [laws_wProfile.j0]) (neg_ (by decide) (k0 P.ps.length 0 (by omega) (by omega)))
end
end Go.Proofs.YtanjbdgmnecacaaDoor.Pure
