/- The fastest run: both codes tell the same one. No condition. -/
import Derived.Test.YtanjbdgmnecacaaPRx10
import Derived.Test.YtanjbdgmnecacaaPRx16
import Derived.Test.YtanjbdgmnecacaaPrG
set_option linter.unusedVariables false
set_option linter.unusedSimpArgs false
namespace Go.Proofs.Ytanjbdgmnecacaa.Pure
open Go.RowKit Go.Proofs.YtanjbdgmnecacaaW.PrintWords Go.Proofs.YtanjbdgmnecacaaW.PrintLast Go.Proofs.Ytanjbdgmnecacaa.PR Go.Proofs.Ytanjbdgmnecacaa.M
section
variable (G : Gr)
/-- A list that holds the distances. -/
def LD (L : List Int) : Prop := (L.length : Int) = 61 * (G.n + 1) ∧ ∀ d v t : Int, 0 ≤ d → d ≤ G.n → 0 ≤ v → v ≤ 60 → 0 ≤ t → t ≤ 2000 → (rd L (61 * d + v) = t ↔ G.D d v = t)
theorem LD.of {L li : List Int} {c : Int} (hB : BI G L li c (G.n + 1)) (hD : Done G L li li.length) : LD G L := by
  refine ⟨hB.len, fun d v t h0 h1 h2 h3 h4 h5 => ⟨fun e => ?_, fun e => ?_⟩⟩
  · have hs := hB.snd d v h0 h1 h2 h3 (by omega)
    rw [e] at hs
    have := G.D_eq hs (fun u hu => by have := (found G hB hD u d v h0 h1 h2 h3 hu).2; omega) (by unfold NEV; omega)
    rw [this]; omega
  · have hr := G.D_reach (d := d) (v := v) (by rw [e]; unfold NEV; omega)
    have hf := found G hB hD _ d v h0 h1 h2 h3 hr
    have hs := hB.snd d v h0 h1 h2 h3 hf.1
    have := G.D_le hs
    omega
theorem LD.big {L li : List Int} {c : Int} (hB : BI G L li c (G.n + 1)) (hD : Done G L li li.length) : (rd L 0 < 0 ∨ rd L 0 > 2000) ↔ G.D 0 0 > 2000 := by
  have hl := LD.of G hB hD
  have hn := G.n0
  have hb := G.D_bounds 0 0
  constructor
  · intro h
    refine Int.lt_of_not_ge (fun hc => ?_)
    have := (hl.2 0 0 (G.D 0 0) (by omega) hn (by omega) (by omega) hb.1 hc).2 rfl
    rw [show (61 * 0 + 0 : Int) = 0 by omega] at this
    omega
  · intro h
    by_cases c0 : rd L 0 < 0
    · exact .inl c0
    · right
      refine Int.lt_of_not_ge (fun hc => ?_)
      have := (hl.2 0 0 (rd L 0) (by omega) hn (by omega) (by omega) (by omega) hc).1 (by rw [show (61 * 0 + 0 : Int) = 0 by omega])
      omega
end
section
variable {P : PR} {x acc sh : Int}
theorem ev_fill (h : Asks P x acc sh) : ∃ L li c, Ev (fun k => spec_fill.f k P.ps P.zs P.tr P.en P.de acc x sh) L ∧ BI (P.gr x acc sh h.x1) L li c ((P.gr x acc sh h.x1).n + 1) ∧ Done (P.gr x acc sh h.x1) L li li.length := by
  have hx2 := h.x2; have hx0 := h.x0; have he1 := h.e1; have hx1 := h.x1
  have hn : (P.gr x acc sh h.x1).n = P.en - x := rfl
  have hM : wrap64 (wrap64 (wrap64 (P.en - x) + 1) * 61) = 61 * (P.en - x + 1) := by
    rw [w64 (a := P.en - x) (by omega) (by omega), w64 (a := P.en - x + 1) (by omega) (by omega), w64 (a := (P.en - x + 1) * 61) (by omega) (by omega)]; omega
  have hr : ∀ i : Int, 0 ≤ i → i < 61 * (P.en - x + 1) → rd (List.replicate (61 * (P.en - x + 1)).toNat (-1)) i < 0 := fun i h0 h1 => by
    unfold rd
    rw [List.getD_eq_getElem?_getD, List.getElem?_replicate, if_pos (by omega)]; decide
  have hB : BI (P.gr x acc sh h.x1) (List.replicate (61 * (P.en - x + 1)).toNat (-1)) [] 0 0 := by
    refine ⟨by rw [List.length_replicate, hn]; omega, fun j h0 h1 => by simp at h1; omega, fun d v h0 h1 h2 h3 h4 => ?_, fun d v h0 h1 h2 h3 h4 => ?_, fun j j' h0 h1 h2 => by simp at h2; omega, fun j h0 h1 => by simp at h1; omega, fun d h0 h1 => by omega, ?_⟩
    · rw [hn] at h1; have := hr (61 * d + v) (by omega) (by omega); omega
    · rw [hn] at h1; have := hr (61 * d + v) (by omega) (by omega); omega
    · rw [List.countP_replicate]; rfl
  obtain ⟨L1, li1, e1, b1⟩ := ev_fl1 h (P.en - x + 1).toNat 0 _ _ (by omega) (by omega) hB (fun d' v h0 h1 h2 h3 => hr _ (by omega) (by omega)) (fun j h0 h1 => by simp at h1; omega)
  obtain ⟨L, li, c, e2, b2, b3⟩ := ev_fl2 h (61 * (P.en - x + 1)).toNat 0 0 L1 li1 (by omega) (by omega) (by omega) b1 (fun j h0 h1 => (b1.pos h0 h1).1) (fun d v w _ _ _ _ hj => by obtain ⟨j, j0, j1, _⟩ := hj; omega)
  refine ⟨L, li, c, ?_, b2, b3⟩
  simp only [spec_fill.f]
  rw [hM, w64 (a := P.en - x) (by omega) (by omega)]
  exact pos_ (by omega) (pos_ (by omega) (Ev.bind e1 e2))
theorem ev_sl1 (h : Asks P x acc sh) {L : List Int} (hL : LD (P.gr x acc sh h.x1) L) {d v t : Int} (hd : 0 ≤ d) (hdn : d ≤ P.en - x) (hv : 0 ≤ v) (hv6 : v ≤ 60) (hD : (P.gr x acc sh h.x1).D d v = t) (h1 : 1 ≤ t) (h2 : t ≤ 2000) (m : Nat) :
    ∀ z best : Int, (P.gr x acc sh h.x1).hi v + 1 - z ≤ m → 0 ≤ z → (P.gr x acc sh h.x1).lo d v ≤ z → ((P.gr x acc sh h.x1).pk d v t < z → best = (P.gr x acc sh h.x1).pk d v t) →
    Ev (fun k => sl1 P.ps P.zs P.tr P.en P.de x L d ((P.gr x acc sh h.x1).hi v) t k z best) ((P.gr x acc sh h.x1).pk d v t) := by
  have hx2 := h.x2; have hx0 := h.x0; have he1 := h.e1; have hx1 := h.x1
  have hn : (P.gr x acc sh h.x1).n = P.en - x := rfl
  have hl := hL.1
  rw [hn] at hl
  obtain ⟨hp, hpm⟩ := (P.gr x acc sh h.x1).pk_spec hD h1 (by unfold NEV; omega)
  have hpr := hp.1.range
  generalize (P.gr x acc sh h.x1).pk d v t = W at hp hpm hpr ⊢
  have h6 := (P.gr x acc sh h.x1).hi6 v
  induction m with
  | zero =>
    intro z best hm hz hlo hb
    refine Ev.step (fun k => by rw [sl1]) (neg_ (by omega) (now_ ?_))
    exact hb (by have := hp.1.2.1; omega)
  | succ m ih =>
    intro z best hm hz hlo hb
    by_cases c : z ≤ (P.gr x acc sh h.x1).hi v
    · have hmay := ev_may' h.g (x := x + d) (v := z) (by omega) (by omega) hz (by omega)
      have hmw : (P.gr x acc sh h.x1).mw d z = may P.O P.en (x + d) z := rfl
      have hnC : ¬ (P.gr x acc sh h.x1).C d v t z → Ev (fun k => sl1 P.ps P.zs P.tr P.en P.de x L d ((P.gr x acc sh h.x1).hi v) t k (z + 1) best) W := fun hn_ =>
        ih (z + 1) best (by omega) (by omega) (by omega) (fun hw => hb (by
          by_cases e : W = z
          · rw [e] at hp; exact absurd hp hn_
          · omega))
      cases e : may P.O P.en (x + d) z with
      | false =>
        rw [e] at hmay
        refine Ev.step (fun k => by rw [sl1, w64 (a := x + d) (by omega) (by omega), w64 (a := z + 1) (by omega) (by omega)]) (pos_ c (Ev.bind hmay ?_))
        refine neg_ (by decide) ?_
        exact hnC (fun hc => by have := hc.1.2.2; rw [hmw, e] at this; cases this)
      | true =>
        rw [e] at hmay
        have hzn := (P.gr x acc sh h.x1).mwn d z (by rw [hmw]; exact e)
        rw [hn] at hzn
        have hix : wrap64 (wrap64 (wrap64 (d + z) * 61) + z) = 61 * (d + z) + z := by
          rw [w64 (a := d + z) (by omega) (by omega), w64 (a := (d + z) * 61) (by omega) (by omega), w64 (a := (d + z) * 61 + z) (by omega) (by omega)]; omega
        have hiff := hL.2 (d + z) z (t - 1) (by omega) (by rw [hn]; omega) hz (by omega) (by omega) (by omega)
        refine Ev.step (fun k => by rw [sl1, w64 (a := x + d) (by omega) (by omega), w64 (a := z + 1) (by omega) (by omega), hix, w64 (a := t - 1) (by omega) (by omega)]) (pos_ c (Ev.bind hmay ?_))
        refine pos_ rfl ?_
        refine pos_ (by omega) (pos_ (by omega) ?_)
        by_cases c2 : rd L (61 * (d + z) + z) = t - 1
        · have hC : (P.gr x acc sh h.x1).C d v t z := ⟨⟨hlo, c, by rw [hmw]; exact e⟩, hiff.1 c2⟩
          have := hpm z hC
          exact pos_ c2 (ih (z + 1) z (by omega) (by omega) (by omega) (fun hw => by omega))
        · exact neg_ c2 (hnC (fun hc => c2 (hiff.2 hc.2)))
    · refine Ev.step (fun k => by rw [sl1]) (neg_ c (now_ ?_))
      exact hb (by have := hp.1.2.1; omega)
theorem ev_sl0 (h : Asks P x acc sh) {L : List Int} (hL : LD (P.gr x acc sh h.x1) L) (t : Nat) : ∀ (d v : Int) (ou : List Int), 0 ≤ d → d ≤ P.en - x → 0 ≤ v → v ≤ 60 → (P.gr x acc sh h.x1).D d v = (t : Int) → ou.length + t ≤ 2000 →
    Ev (fun k => sl0 P.ps P.zs P.tr P.en P.de acc x L k d v (t : Int) ou) (ou ++ (P.gr x acc sh h.x1).path t d v) := by
  have hx2 := h.x2; have hx0 := h.x0; have he1 := h.e1; have hx1 := h.x1
  have hn : (P.gr x acc sh h.x1).n = P.en - x := rfl
  induction t with
  | zero =>
    intro d v ou hd hdn hv hv6 hD ho
    refine Ev.step (fun k => by rw [sl0]) (neg_ (by omega) (now_ ?_))
    simp [Gr.path]
  | succ t ih =>
    intro d v ou hd hdn hv hv6 hD ho
    have hRb := h.g.R (x + d)
    have hless := less_eq' (v := v) (b := P.R (x + d)) (by omega) (by omega)
    obtain ⟨hp, hpm⟩ := (P.gr x acc sh h.x1).pk_spec hD (by omega) (by unfold NEV; omega)
    have hpr := hp.1.range
    rw [hn] at hpr
    have hlo := hp.1.1
    have h6 := (P.gr x acc sh h.x1).hi6 v
    have h0 := (P.gr x acc sh h.x1).lo0 d v
    have hs := ev_sl1 h hL hd hdn hv hv6 hD (by omega) (by omega) 61 ((P.gr x acc sh h.x1).lo d v) 0 (by omega) h0 (Int.le_refl _) (fun hw => by omega)
    have hnx := ih (d + (P.gr x acc sh h.x1).pk d v ((t + 1 : Nat) : Int)) ((P.gr x acc sh h.x1).pk d v ((t + 1 : Nat) : Int)) (ou ++ [(P.gr x acc sh h.x1).pk d v ((t + 1 : Nat) : Int)]) (by omega) (by omega) hpr.1 hpr.2.1 (by rw [hp.2]; omega) (by simp; omega)
    refine Ev.step (fun k => by rw [sl0, w64 (a := x + d) (by omega) (by omega), w64 (a := ((t + 1 : Nat) : Int) - 1) (by omega) (by omega), show ((t + 1 : Nat) : Int) - 1 = (t : Int) by omega, hiV_eq h hv hv6]) ?_
    refine pos_ (by omega) (Ev.bind (ev_l2rate h.g (x := x + d) (by omega) (by omega)) (bindc hless (Ev.bind hs (pos_ (by omega) ?_))))
    rw [w64 (a := d + (P.gr x acc sh h.x1).pk d v ((t + 1 : Nat) : Int)) (by omega) (by omega)]
    rw [show ou ++ (P.gr x acc sh h.x1).path (t + 1) d v = (ou ++ [(P.gr x acc sh h.x1).pk d v ((t + 1 : Nat) : Int)]) ++ (P.gr x acc sh h.x1).path t (d + (P.gr x acc sh h.x1).pk d v ((t + 1 : Nat) : Int)) ((P.gr x acc sh h.x1).pk d v ((t + 1 : Nat) : Int)) from by simp [Gr.path]]
    exact hnx
theorem ev_il5 (h : Asks P x acc sh) {T : List (List Int)} {B : List (List Bool)} (hT : TK (P.gr x acc sh h.x1) T (-1) 0) (hB : BK (P.gr x acc sh h.x1) B (-1) 0) {d v t : Int} (hd : 0 ≤ d) (hdn : d ≤ P.en - x) (hv : 0 ≤ v) (hv6 : v ≤ 60) (hD : (P.gr x acc sh h.x1).D d v = t) (h1 : 1 ≤ t) (h2 : t ≤ 2000) (m : Nat) :
    ∀ q : Int, q - (P.gr x acc sh h.x1).pk d v t = m → q ≤ (P.gr x acc sh h.x1).hi v → Ev (fun k => il5 P.ps P.zs P.tr P.en P.de x T B d v t k q) (d + (P.gr x acc sh h.x1).pk d v t, (P.gr x acc sh h.x1).pk d v t) := by
  have hx2 := h.x2; have hx0 := h.x0; have he1 := h.e1; have hx1 := h.x1
  have hn : (P.gr x acc sh h.x1).n = P.en - x := rfl
  have tl := hT.1.1
  have bl := hB.1.1
  rw [hn] at tl bl
  obtain ⟨hp, hpm⟩ := (P.gr x acc sh h.x1).pk_spec hD h1 (by unfold NEV; omega)
  have hpr := hp.1.range
  rw [hn] at hpr
  have hplo := hp.1.1
  have h6 := (P.gr x acc sh h.x1).hi6 v
  have hlo0 := (P.gr x acc sh h.x1).lo0 d v
  generalize (P.gr x acc sh h.x1).pk d v t = W at hp hpm hpr hplo ⊢
  have hval : ∀ q, 0 ≤ q → q ≤ 60 → d + q ≤ P.en - x → rd2 T (d + q) q = (P.gr x acc sh h.x1).D (d + q) q := fun q h0 h3 h4 => hT.2 (d + q) q (by omega) (by rw [hn]; omega) h0 h3 (.inl (by omega))
  have hbv : ∀ q, 1 ≤ q → q ≤ 60 → rdB B d q = (P.gr x acc sh h.x1).mw d q := fun q h0 h3 => by
    have := hB.2 d q hd (by rw [hn]; omega) (by omega) h3
    rw [if_pos ⟨.inl (by omega), h0⟩] at this
    exact this
  have hb := ev_brakeAt h.g (x := x + d) (by omega) (by omega)
  have hloe := lo_eq h (a := d) hv hv6
  induction m with
  | zero =>
    intro q hq hqh
    have e : q = W := by omega
    subst e
    refine Ev.step (fun k => by rw [il5, w64 (a := x + d) (by omega) (by omega), w64 (a := d + q) (by omega) (by omega), w64 (a := t - 1) (by omega) (by omega)]) (Ev.bind hb ?_)
    rw [hloe]
    refine pos_ (by omega) ?_
    have hcmp : rd2 T (d + q) q = t - 1 := by rw [hval q hpr.1 hpr.2.1 hpr.2.2]; exact hp.2
    by_cases c : q = 0
    · exact pos_ c (pos_ (by omega) (pos_ hcmp (now_ rfl)))
    · refine neg_ c (pos_ (by omega) ?_)
      rw [hbv q (by omega) hpr.2.1]
      exact pos_ hp.1.2.2 (pos_ (by omega) (pos_ hcmp (now_ rfl)))
  | succ m ih =>
    intro q hq hqh
    have hnx := ih (q - 1) (by omega) (by omega)
    refine Ev.step (fun k => by rw [il5, w64 (a := x + d) (by omega) (by omega), w64 (a := d + q) (by omega) (by omega), w64 (a := t - 1) (by omega) (by omega), w64 (a := q - 1) (by omega) (by omega)]) (Ev.bind hb ?_)
    rw [hloe]
    refine pos_ (by omega) (neg_ (by omega) (pos_ (by omega) ?_))
    rw [hbv q (by omega) (by omega)]
    by_cases c2 : (P.gr x acc sh h.x1).mw d q = true
    · have hqn := (P.gr x acc sh h.x1).mwn d q c2
      rw [hn] at hqn
      refine pos_ c2 (pos_ (by omega) ?_)
      rw [hval q (by omega) (by omega) hqn]
      by_cases c3 : (P.gr x acc sh h.x1).D (d + q) q = t - 1
      · have := hpm q ⟨⟨by omega, hqh, c2⟩, c3⟩; omega
      · exact neg_ c3 hnx
    · exact neg_ c2 hnx
theorem ev_il4 (h : Asks P x acc sh) {T : List (List Int)} {B : List (List Bool)} (hT : TK (P.gr x acc sh h.x1) T (-1) 0) (hB : BK (P.gr x acc sh h.x1) B (-1) 0) (t : Nat) : ∀ (d v : Int) (ou : List Int), 0 ≤ d → d ≤ P.en - x → 0 ≤ v → v ≤ 60 → (P.gr x acc sh h.x1).D d v = (t : Int) → ou.length + t ≤ 2000 →
    Ev (fun k => il4 P.ps P.zs P.tr P.en P.de acc x T B k d v (t : Int) ou) (ou ++ (P.gr x acc sh h.x1).path t d v) := by
  have hn : (P.gr x acc sh h.x1).n = P.en - x := rfl
  induction t with
  | zero =>
    intro d v ou hd hdn hv hv6 hD ho
    refine Ev.step (fun k => by rw [il4]) (neg_ (by omega) (now_ ?_))
    simp [Gr.path]
  | succ t ih =>
    intro d v ou hd hdn hv hv6 hD ho
    obtain ⟨hp, hpm⟩ := (P.gr x acc sh h.x1).pk_spec hD (by omega) (by unfold NEV; omega)
    have hpr := hp.1.range
    rw [hn] at hpr
    have hph := hp.1.2.1
    have h6 := (P.gr x acc sh h.x1).hi6 v
    have hs := ev_il5 h hT hB hd hdn hv hv6 hD (by omega) (by omega) ((P.gr x acc sh h.x1).hi v - (P.gr x acc sh h.x1).pk d v ((t + 1 : Nat) : Int)).toNat ((P.gr x acc sh h.x1).hi v) (by omega) (Int.le_refl _)
    have hnx := ih (d + (P.gr x acc sh h.x1).pk d v ((t + 1 : Nat) : Int)) ((P.gr x acc sh h.x1).pk d v ((t + 1 : Nat) : Int)) (ou ++ [(P.gr x acc sh h.x1).pk d v ((t + 1 : Nat) : Int)]) (by omega) (by omega) hpr.1 hpr.2.1 (by rw [hp.2]; omega) (by simp; omega)
    refine Ev.step (fun k => by rw [il4, w64 (a := ((t + 1 : Nat) : Int) - 1) (by omega) (by omega), show ((t + 1 : Nat) : Int) - 1 = (t : Int) by omega, hi_eq h hv hv6]) ?_
    refine pos_ (by omega) (Ev.bind hs (pos_ (by omega) ?_))
    rw [show ou ++ (P.gr x acc sh h.x1).path (t + 1) d v = (ou ++ [(P.gr x acc sh h.x1).pk d v ((t + 1 : Nat) : Int)]) ++ (P.gr x acc sh h.x1).path t (d + (P.gr x acc sh h.x1).pk d v ((t + 1 : Nat) : Int)) ((P.gr x acc sh h.x1).pk d v ((t + 1 : Nat) : Int)) from by simp [Gr.path]]
    exact hnx
open Classical in
/-- The fastest run, as a plain function of the profile and the numbers. -/
noncomputable def PR.fast (P : PR) (acc x sh : Int) : Bool × Int × List Int :=
  if h : P.askP acc x sh then (if (P.gr x acc sh (Asks.of h).x1).D 0 0 > 2000 then (false, 0, []) else (true, (P.gr x acc sh (Asks.of h).x1).D 0 0, (P.gr x acc sh (Asks.of h).x1).path ((P.gr x acc sh (Asks.of h).x1).D 0 0).toNat 0 0)) else (false, 0, [])
theorem ev_iFast (acc x sh : Int) : Ev (fun k => impl_Fastest.f k P.ps P.zs P.tr P.en P.de acc x sh) (P.fast acc x sh) := by
  simp only [impl_Fastest.f]
  unfold PR.fast
  by_cases c : P.askP acc x sh
  · rw [dif_pos c]
    have h := Asks.of c
    have hx2 := h.x2; have hx1 := h.x1
    have hn : (P.gr x acc sh h.x1).n = P.en - x := rfl
    have hM : wrap64 (wrap64 (P.en - x) + 1) = P.en - x + 1 := by
      rw [w64 (a := P.en - x) (by omega) (by omega), w64 (a := P.en - x + 1) (by omega) (by omega)]
    rw [hM, w64 (a := P.en - x) (by omega) (by omega)]
    have hlen : ∀ {α : Type} (z : α), Sq (List.replicate (P.en - x + 1).toNat (List.replicate 61 z)) ((P.gr x acc sh h.x1).n + 1) := fun z => by
      refine ⟨by rw [List.length_replicate, hn]; omega, fun d h0 h1 => ?_⟩
      rw [hn] at h1
      rw [List.getD_eq_getElem?_getD, List.getElem?_replicate, if_pos (by omega)]; simp
    have hT : TK (P.gr x acc sh h.x1) (List.replicate (P.en - x + 1).toNat (List.replicate 61 0)) (P.en - x) 0 := ⟨hlen 0, fun d u h0 h1 h2 h3 h4 => by rw [hn] at h1; omega⟩
    have hB : BK (P.gr x acc sh h.x1) (List.replicate (P.en - x + 1).toNat (List.replicate 61 false)) (P.en - x) 0 := ⟨hlen false, fun d u h0 h1 h2 h3 => by
      rw [hn] at h1
      rw [if_neg (by omega)]
      unfold g2
      rw [List.getD_eq_getElem?_getD (l := List.replicate (P.en - x + 1).toNat (List.replicate 61 false)), List.getElem?_replicate, if_pos (by omega)]
      simp only [Option.getD_some]
      rw [List.getD_eq_getElem?_getD, List.getElem?_replicate, if_pos (by omega)]; rfl⟩
    obtain ⟨T', B', e, kT, kB⟩ := ev_il0 h (P.en - x + 1).toNat (P.en - x) _ _ (by omega) (by omega) hT hB
    have hv : rd2 T' 0 0 = (P.gr x acc sh h.x1).D 0 0 := kT.2 0 0 (by omega) (by rw [hn]; omega) (by omega) (by omega) (.inl (by omega))
    have hb := (P.gr x acc sh h.x1).D_bounds 0 0
    refine bindc (ev_asked acc x sh c) (pos_ rfl (pos_ (by omega) (pos_ (by omega) (Ev.bind e ?_))))
    simp only
    rw [hv]
    by_cases c2 : (P.gr x acc sh h.x1).D 0 0 > 2000
    · rw [if_pos c2]; exact pos_ c2 (now_ rfl)
    · rw [if_neg c2]
      refine neg_ c2 ?_
      have hs := ev_il4 h kT kB ((P.gr x acc sh h.x1).D 0 0).toNat 0 0 [] (by omega) (by omega) (by omega) (by omega) (by omega) (by simp; omega)
      rw [show (((P.gr x acc sh h.x1).D 0 0).toNat : Int) = (P.gr x acc sh h.x1).D 0 0 by omega] at hs
      exact Ev.bind hs (now_ (by simp))
  · rw [dif_neg c]
    exact bindc (ev_asked_f acc x sh c) (neg_ (by decide) (now_ rfl))
theorem ev_sFast (acc x sh : Int) : Ev (fun k => spec_Fastest.f k P.ps P.zs P.tr P.en P.de acc x sh) (P.fast acc x sh) := by
  simp only [spec_Fastest.f]
  unfold PR.fast
  by_cases c : P.askP acc x sh
  · rw [dif_pos c]
    have h := Asks.of c
    have hx2 := h.x2; have hx1 := h.x1
    have hn : (P.gr x acc sh h.x1).n = P.en - x := rfl
    obtain ⟨L, li, c0, e, b1, b2⟩ := ev_fill h
    have hL := LD.of _ b1 b2
    have hbig := LD.big _ b1 b2
    have hb := (P.gr x acc sh h.x1).D_bounds 0 0
    have hl := hL.1
    rw [hn] at hl
    refine Ev.bind (ev_l4good acc x sh c) (pos_ rfl (Ev.bind e (pos_ (by omega) ?_)))
    by_cases c2 : (P.gr x acc sh h.x1).D 0 0 > 2000
    · rw [if_pos c2]
      by_cases c3 : rd L 0 < 0
      · exact pos_ c3 (now_ rfl)
      · exact neg_ c3 (pos_ (by have := hbig.2 c2; omega) (now_ rfl))
    · rw [if_neg c2]
      have hv : rd L 0 = (P.gr x acc sh h.x1).D 0 0 := by
        have := (hL.2 0 0 _ (by omega) (by rw [hn]; omega) (by omega) (by omega) hb.1 (by omega)).2 rfl
        rw [show (61 * 0 + 0 : Int) = 0 by omega] at this
        exact this
      rw [hv]
      refine neg_ (by omega) (neg_ c2 ?_)
      have hs := ev_sl0 h hL ((P.gr x acc sh h.x1).D 0 0).toNat 0 0 [] (by omega) (by omega) (by omega) (by omega) (by omega) (by simp; omega)
      rw [show (((P.gr x acc sh h.x1).D 0 0).toNat : Int) = (P.gr x acc sh h.x1).D 0 0 by omega] at hs
      exact Ev.bind hs (now_ (by simp))
  · rw [dif_neg c]
    exact Ev.bind (ev_l4good_f acc x sh c) (neg_ (by decide) (now_ rfl))
end
end Go.Proofs.Ytanjbdgmnecacaa.Pure
