/- What the laws ask of the fastest run: it is one, none that comes home is sooner, of as fast ones it is the one that is faster first. No condition but what each lemma says. -/
import Derived.Test.YtanjbdgmnecacaaPRx10
import Derived.Test.YtanjbdgmnecacaaPrH
set_option linter.unusedVariables false
set_option linter.unusedSimpArgs false
namespace Go.Proofs.Ytanjbdgmnecacaa.Pure
open Go.RowKit Go.Proofs.YtanjbdgmnecacaaW.PrintWords Go.Proofs.YtanjbdgmnecacaaW.PrintLast Go.Proofs.Ytanjbdgmnecacaa.PR Go.Proofs.Ytanjbdgmnecacaa.M
section
variable {P : PR} {x acc sh : Int}
theorem runA_iff (h : Asks P x acc sh) (l : List Int) : ∀ d v : Int, runA P.R P.O P.en acc sh l (x + d) v = true ↔ (P.gr x acc sh h.x1).Run l d v := by
  induction l with
  | nil =>
    intro d v
    show (decide (v = 0) && decide (P.en - (x + d) ≤ sh)) = true ↔ v = 0 ∧ P.en - x - d ≤ sh
    simp only [Bool.and_eq_true, decide_eq_true_eq]
    constructor <;> intro z <;> exact ⟨z.1, by have := z.2; omega⟩
  | cons w l ih =>
    intro d v
    have he : ((less v (P.R (x + d)) ≤ w ∧ w ≤ v + acc ∧ w ≤ 60) ∧ may P.O P.en (x + d) w = true) ↔ (P.gr x acc sh h.x1).E d v w := by
      show _ ↔ less v (P.R (x + d)) ≤ w ∧ w ≤ (if v + acc > 60 then 60 else v + acc) ∧ may P.O P.en (x + d) w = true
      constructor
      · intro z; exact ⟨z.1.1, by split <;> omega, z.2⟩
      · intro z; refine ⟨⟨z.1, ?_⟩, z.2.2⟩; have := z.2.1; split at this <;> omega
    simp only [runA]
    show _ ↔ (P.gr x acc sh h.x1).E d v w ∧ (P.gr x acc sh h.x1).Run l (d + w) w
    by_cases c : (P.gr x acc sh h.x1).E d v w
    · rw [if_pos (he.2 c), show x + d + w = x + (d + w) by omega, ih]
      exact ⟨fun z => ⟨c, z⟩, fun z => z.2⟩
    · rw [if_neg (fun z => c (he.1 z))]
      exact ⟨fun z => (by cases z), fun z => absurd z.1 c⟩
theorem runOk_iff (l : List Int) : P.runOk acc x sh l = true ↔ ∃ h : P.askP acc x sh, l.length ≤ 2000 ∧ (P.gr x acc sh (Asks.of h).x1).Run l 0 0 := by
  unfold PR.runOk
  by_cases c : P.askP acc x sh ∧ l.length ≤ 2000
  · rw [if_pos c]
    have := runA_iff (Asks.of c.1) l 0 0
    rw [show x + 0 = x by omega] at this
    rw [this]
    exact ⟨fun z => ⟨c.1, c.2, z⟩, fun z => z.2.2⟩
  · rw [if_neg c]
    exact ⟨fun z => (by cases z), fun z => absurd ⟨z.1, z.2.1⟩ c⟩
/-- The fastest run is one, of as many ticks as it tells. -/
theorem fast_is (h : (P.fast acc x sh).1 = true) : ((P.fast acc x sh).2.2.length : Int) = (P.fast acc x sh).2.1 ∧ P.runOk acc x sh (P.fast acc x sh).2.2 = true := by
  unfold PR.fast at h ⊢
  by_cases c : P.askP acc x sh
  · rw [dif_pos c] at h ⊢
    have hb := (P.gr x acc sh (Asks.of c).x1).D_bounds 0 0
    by_cases c2 : (P.gr x acc sh (Asks.of c).x1).D 0 0 > 2000
    · rw [if_pos c2] at h; cases h
    · rw [if_neg c2]
      simp only
      refine ⟨by rw [Gr.path_len]; omega, (runOk_iff _).2 ⟨c, by rw [Gr.path_len]; omega, ?_⟩⟩
      exact Gr.path_run _ _ 0 0 (by omega) (by unfold NEV; omega)
  · rw [dif_neg c] at h; cases h
/-- No run is sooner; of as many ticks, none is later the faster one. -/
theorem fast_best {l : List Int} (h : P.runOk acc x sh l = true) : (P.fast acc x sh).1 = true ∧ (P.fast acc x sh).2.1 ≤ l.length ∧ ((l.length : Int) = (P.fast acc x sh).2.1 → lat l (P.fast acc x sh).2.2 = false) := by
  obtain ⟨c, hl, hr⟩ := (runOk_iff _).1 h
  have hD := (P.gr x acc sh (Asks.of c).x1).D_le hr.reach
  have hb := (P.gr x acc sh (Asks.of c).x1).D_bounds 0 0
  unfold PR.fast
  rw [dif_pos c, if_neg (by omega)]
  refine ⟨rfl, hD, fun e0 => ?_⟩
  have e : (l.length : Int) = (P.gr x acc sh (Asks.of c).x1).D 0 0 := e0
  exact Gr.later _ _ l 0 0 (by omega) (by omega) (by unfold NEV; omega) hr
theorem ones (h : Asks P x acc sh) (m : Nat) : ∀ d v : Int, d + m = P.en - x → (v = 0 ∨ v = 1) → (P.gr x acc sh h.x1).Reach (m + 1) d v := by
  have ha := h.a1
  have hl : ∀ d v : Int, (v = 0 ∨ v = 1) → (P.gr x acc sh h.x1).lo d v = 0 := fun d v hv => by
    have := h.g.R (x + d)
    show less v (P.R (x + d)) = 0
    unfold less; split <;> omega
  have hh : ∀ v : Int, (v = 0 ∨ v = 1) → 1 ≤ (P.gr x acc sh h.x1).hi v := fun v hv => by
    show 1 ≤ (if v + acc > 60 then 60 else v + acc)
    split <;> omega
  induction m with
  | zero =>
    intro d v hd hv
    have := hh v hv
    refine ⟨0, ⟨by rw [hl d v hv]; omega, by omega, (P.gr x acc sh h.x1).mw0 d (by show d ≤ P.en - x; omega)⟩, rfl, ?_⟩
    show P.en - x - (d + 0) ≤ sh
    have := h.s0; omega
  | succ m ih =>
    intro d v hd hv
    refine ⟨1, ⟨by rw [hl d v hv]; omega, hh v hv, ?_⟩, ih (d + 1) 1 (by omega) (.inr rfl)⟩
    show may P.O P.en (x + d) 1 = true
    have := h.g.O (x + d) (x + d + 1)
    unfold may; rw [if_neg (by omega)]; simp; omega
theorem fast_eq (h : P.askP acc x sh) (h2 : (P.gr x acc sh (Asks.of h).x1).D 0 0 ≤ 2000) : P.fast acc x sh = (true, (P.gr x acc sh (Asks.of h).x1).D 0 0, (P.gr x acc sh (Asks.of h).x1).path ((P.gr x acc sh (Asks.of h).x1).D 0 0).toNat 0 0) := by
  unfold PR.fast
  rw [dif_pos h, if_neg (by omega)]
/-- With a greater acceleration it is no slower. -/
theorem D_acc {acc' : Int} (h : Asks P x acc sh) (h' : Asks P x acc' sh) (hl : acc ≤ acc') : (P.gr x acc' sh h'.x1).D 0 0 ≤ (P.gr x acc sh h.x1).D 0 0 :=
  Gr.D_mono (P.gr x acc sh h.x1) (G' := P.gr x acc' sh h'.x1) rfl rfl (fun d v w he => ⟨he.1, by
    have := he.2.1
    show w ≤ (if v + acc' > 60 then 60 else v + acc')
    have h2 : w ≤ (if v + acc > 60 then 60 else v + acc) := this
    split at h2 <;> split <;> omega, he.2.2⟩) 0 0
end
end Go.Proofs.Ytanjbdgmnecacaa.Pure
