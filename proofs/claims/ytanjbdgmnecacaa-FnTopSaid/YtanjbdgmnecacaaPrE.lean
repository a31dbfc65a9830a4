/- Comparing lists and profiles with themselves; the limit that the laws tell. No condition. -/
import Derived.Test.YtanjbdgmnecacaaPAx0
import Derived.Test.YtanjbdgmnecacaaPAx16
import Derived.Test.YtanjbdgmnecacaaPAx17
import Derived.Test.YtanjbdgmnecacaaPAx18
import Derived.Test.YtanjbdgmnecacaaPrB
set_option linter.unusedVariables false
set_option linter.unusedSimpArgs false
namespace Go.Proofs.Ytanjbdgmnecacaa.Pure
open Go.RowKit Go.Proofs.YtanjbdgmnecacaaW.PrintWords Go.Proofs.YtanjbdgmnecacaaW.PrintLast Go.Proofs.Ytanjbdgmnecacaa.PA Go.Proofs.Ytanjbdgmnecacaa.M
section
theorem ev_wInts (l : List Int) (hl : l.length ≤ 1000000) : Ev (fun k => laws_wInts.f k l l) true := by
  have key : ∀ d : Nat, ∀ i : Int, 0 ≤ i → i + d = l.length → Ev (fun k => laws_wInts.l0 k l l l.length i) true := by
    intro d
    induction d with
    | zero => intro i h0 h1; exact Ev.step (fun k => by rw [laws_wInts.l0]) (neg_ (by omega) (now_ rfl))
    | succ d ih =>
      intro i h0 h1
      refine Ev.step (fun k => by rw [laws_wInts.l0]) (pos_ (by omega) (pos_ h0 (pos_ (by omega) (pos_ (by omega) (pos_ rfl ?_)))))
      rw [w64 (by omega) (by omega)]
      exact ih (i + 1) (by omega) (by omega)
  simp only [laws_wInts.f]
  exact pos_ trivial (key l.length 0 (by omega) (by omega))
theorem ev_wProfile (P : PR) (h1 : P.ps.length ≤ 1000000) (h2 : P.zs.length ≤ 1000000) : Ev (fun k => laws_wProfile.f k P.ps P.zs P.tr P.en P.de P.ps P.zs P.tr P.en P.de) true := by
  have k1 : ∀ d : Nat, ∀ i : Int, 0 ≤ i → i + d = P.zs.length → Ev (fun k => laws_wProfile.l1 k P.zs.length i P.ps P.zs P.tr P.en P.de P.ps P.zs P.tr P.en P.de) true := by
    intro d
    induction d with
    | zero => intro i h0 h1; exact Ev.step (fun k => by rw [laws_wProfile.l1]) (neg_ (by omega) (now_ rfl))
    | succ d ih =>
      intro i h0 h3
      refine Ev.step (fun k => by rw [laws_wProfile.l1]) (pos_ (by omega) (pos_ h0 (pos_ (by omega) (pos_ (by omega) (neg_ (by simp) ?_)))))
      rw [w64 (by omega) (by omega)]
      exact ih (i + 1) (by omega) (by omega)
  have k0 : ∀ d : Nat, ∀ i : Int, 0 ≤ i → i + d = P.ps.length → Ev (fun k => laws_wProfile.l0 k P.ps.length i P.ps P.zs P.tr P.en P.de P.ps P.zs P.tr P.en P.de) true := by
    intro d
    induction d with
    | zero => intro i h0 h3; exact Ev.step (fun k => by rw [laws_wProfile.l0]) (neg_ (by omega) (k1 P.zs.length 0 (by omega) (by omega)))
    | succ d ih =>
      intro i h0 h3
      refine Ev.step (fun k => by rw [laws_wProfile.l0]) (pos_ (by omega) (pos_ h0 (pos_ (by omega) (pos_ (by omega) (neg_ (by simp) ?_)))))
      rw [w64 (by omega) (by omega)]
      exact ih (i + 1) (by omega) (by omega)
  simp only [laws_wProfile.f]
  refine pos_ trivial (pos_ trivial (pos_ trivial (pos_ trivial ?_)))
  rw [show (P.de != P.de) = false by simp]
  exact Ev.step (fun k => by rw [laws_wProfile.j0]) (neg_ (by decide) (k0 P.ps.length 0 (by omega) (by omega)))
theorem ev_wLimit_l0 {P : PR} (hg : Good P) (a b : Int) (d : Nat) : ∀ i s : Int, 0 ≤ i → i + d = P.zs.length →
    Ev (fun k => laws_wLimit.l0 k a b s P.zs P.zs.length i P.ps P.zs P.tr P.en P.de) (ovA P.tr a b (P.zs.drop i.toNat) s) := by
  have hn := hg.z60
  have ht := hg.tot
  have h5 := hg.tr0
  have h6 := hg.tr1
  induction d with
  | zero =>
    intro i s h0 h1
    refine Ev.step (fun k => by rw [laws_wLimit.l0]) (neg_ (by omega) (now_ ?_))
    rw [drop_len P.zs i (by omega)]; rfl
  | succ d ih =>
    intro i s h0 h1
    have hm := hg.hz _ (getD_mem' P.zs i z45 h0 (by omega))
    rw [drop_cons_getD P.zs i z45 h0 (by omega)]
    simp only [ovA]
    refine Ev.step (fun k => by rw [laws_wLimit.l0]) (pos_ (by omega) (pos_ h0 (pos_ (by omega) ?_)))
    have e : rd_T45 P.zs i = P.zs.getD i.toNat z45 := rfl
    rw [e]
    generalize P.zs.getD i.toNat z45 = z at hm ⊢
    rw [w64 (a := i + 1) (by omega) (by omega), w64 (a := z.f1 + P.tr) (by omega) (by omega)]
    by_cases c : z.f0 ≤ b
    · refine pos_ c ?_
      by_cases c2 : a ≤ z.f1 + P.tr
      · rw [if_pos ⟨c, c2⟩]
        refine pos_ c2 ?_
        by_cases c3 : z.f2 < s
        · rw [show min s z.f2 = z.f2 by omega]; exact pos_ c3 (ih (i + 1) _ (by omega) (by omega))
        · rw [show min s z.f2 = s by omega]; exact neg_ c3 (ih (i + 1) _ (by omega) (by omega))
      · rw [if_neg (fun x => c2 x.2)]; exact neg_ c2 (ih (i + 1) _ (by omega) (by omega))
    · rw [if_neg (fun x => c x.1)]; exact neg_ c (ih (i + 1) _ (by omega) (by omega))
theorem ev_wLimit {P : PR} (hg : Good P) (a b : Int) : Ev (fun k => laws_wLimit.f k P.ps P.zs P.tr P.en P.de a b) (P.O a b) := by
  simp only [laws_wLimit.f]
  exact ev_wLimit_l0 hg a b P.zs.length 0 10000 (by omega) (by omega)
end
end Go.Proofs.Ytanjbdgmnecacaa.Pure
