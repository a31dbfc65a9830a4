/- The reference's search: from home back, each state once, by the fewest ticks. No condition but what each lemma says. -/
import Derived.Test.YtanjbdgmnecacaaPRx4
import Derived.Test.YtanjbdgmnecacaaPRx5
import Derived.Test.YtanjbdgmnecacaaPRx9
import Derived.Test.YtanjbdgmnecacaaPRx10
import Derived.Test.YtanjbdgmnecacaaPrF
set_option linter.unusedVariables false
set_option linter.unusedSimpArgs false
namespace Go.Proofs.Ytanjbdgmnecacaa.Pure
open Go.RowKit Go.Proofs.YtanjbdgmnecacaaW.PrintWords Go.Proofs.YtanjbdgmnecacaaW.PrintLast Go.Proofs.Ytanjbdgmnecacaa.PR Go.Proofs.Ytanjbdgmnecacaa.M
section
variable {G : Gr}
theorem rd_set {L : List Int} {i j x : Int} (hi : 0 ≤ i) (hl : i < L.length) (hj : 0 ≤ j) : rd (L.set i.toNat x) j = if j = i then x else rd L j := gt_set L 0 i j x hi hl hj
theorem rd_snoc {L : List Int} {j x : Int} (hj : 0 ≤ j) (hl : j ≤ L.length) : rd (L ++ [x]) j = if j = L.length then x else rd L j := gt_snoc L 0 j x hj hl
/-- What the search holds: the states met stand in the line, in rising order, each with the ticks of a way home. -/
structure BI (G : Gr) (L li : List Int) (c m : Int) : Prop where
  len : (L.length : Int) = 61 * (G.n + 1)
  mem : ∀ j : Int, 0 ≤ j → j < li.length → ∃ d v, (0 ≤ d ∧ d ≤ G.n ∧ 0 ≤ v ∧ v ≤ 60) ∧ rd li j = 61 * d + v ∧ 0 ≤ rd L (61 * d + v) ∧ rd L (61 * d + v) ≤ c + 1
  cov : ∀ d v : Int, 0 ≤ d → d ≤ G.n → 0 ≤ v → v ≤ 60 → 0 ≤ rd L (61 * d + v) → ∃ j : Int, 0 ≤ j ∧ j < li.length ∧ rd li j = 61 * d + v
  snd : ∀ d v : Int, 0 ≤ d → d ≤ G.n → 0 ≤ v → v ≤ 60 → 0 ≤ rd L (61 * d + v) → G.Reach (rd L (61 * d + v)).toNat d v
  mon : ∀ j j' : Int, 0 ≤ j → j ≤ j' → j' < li.length → rd L (rd li j) ≤ rd L (rd li j')
  bnd : ∀ j : Int, 0 ≤ j → j < li.length → rd L (rd li j) ≤ j
  hom : ∀ d : Int, 0 ≤ d → d < m → d ≤ G.n → G.n - d ≤ G.sh → rd L (61 * d) = 0
  cnt : L.countP (fun z => decide (0 ≤ z)) = li.length
theorem BI.pos {L li : List Int} {c m j : Int} (h : BI G L li c m) (h0 : 0 ≤ j) (h1 : j < li.length) : 0 ≤ rd L (rd li j) ∧ rd L (rd li j) ≤ c + 1 ∧ 0 ≤ rd li j ∧ rd li j < 61 * (G.n + 1) := by
  obtain ⟨d, v, hr, e, e1, e2⟩ := h.mem j h0 h1
  rw [e]; exact ⟨e1, e2, by omega, by omega⟩
theorem BI.size {L li : List Int} {c m : Int} (h : BI G L li c m) : (li.length : Int) ≤ 61 * (G.n + 1) := by
  have := List.countP_le_length (p := fun z : Int => decide (0 ≤ z)) (l := L)
  have := h.cnt; have := h.len; omega
theorem BI.raise {L li : List Int} {c c' m : Int} (h : BI G L li c m) (hc : c ≤ c') : BI G L li c' m :=
  ⟨h.len, fun j h0 h1 => by obtain ⟨d, v, hr, e, e1, e2⟩ := h.mem j h0 h1; exact ⟨d, v, hr, e, e1, by omega⟩, h.cov, h.snd, h.mon, h.bnd, h.hom, h.cnt⟩
theorem BI.add {L li : List Int} {c m d v t : Int} (h : BI G L li c m) (hd : 0 ≤ d) (hdn : d ≤ G.n) (hv : 0 ≤ v) (hv6 : v ≤ 60) (hneg : rd L (61 * d + v) < 0) (ht : 0 ≤ t) (htc : t ≤ c + 1) (htl : t ≤ li.length) (hr : G.Reach t.toNat d v)
    (hmon : ∀ j : Int, 0 ≤ j → j < li.length → rd L (rd li j) ≤ t) : BI G (L.set (61 * d + v).toNat t) (li ++ [61 * d + v]) c m := by
  have hl := h.len
  have hset : ∀ j, 0 ≤ j → rd (L.set (61 * d + v).toNat t) j = if j = 61 * d + v then t else rd L j := fun j hj => rd_set (by omega) (by omega) hj
  have hold : ∀ j : Int, 0 ≤ j → j < li.length → rd (L.set (61 * d + v).toNat t) (rd li j) = rd L (rd li j) := fun j h0 h1 => by
    have := h.pos h0 h1
    rw [hset _ this.2.2.1, if_neg (fun e => by rw [e] at this; omega)]
  have hsn : ∀ j : Int, 0 ≤ j → j < (li ++ [61 * d + v]).length → rd (li ++ [61 * d + v]) j = if j = li.length then 61 * d + v else rd li j := fun j h0 h1 => rd_snoc h0 (by simp at h1; omega)
  have hval : ∀ j : Int, 0 ≤ j → j < (li ++ [61 * d + v]).length → rd (L.set (61 * d + v).toNat t) (rd (li ++ [61 * d + v]) j) = if j = li.length then t else rd L (rd li j) := fun j h0 h1 => by
    rw [hsn j h0 h1]
    by_cases e : j = li.length
    · rw [if_pos e, if_pos e, hset _ (by omega), if_pos rfl]
    · rw [if_neg e, if_neg e]; exact hold j h0 (by simp at h1; omega)
  refine ⟨by rw [List.length_set]; exact hl, fun j h0 h1 => ?_, fun d' v' h0 h1 h2 h3 h4 => ?_, fun d' v' h0 h1 h2 h3 h4 => ?_, fun j j' h0 h1 h2 => ?_, fun j h0 h1 => ?_, fun d' h0 h1 h2 h3 => ?_, ?_⟩
  · by_cases e : j = li.length
    · refine ⟨d, v, ⟨hd, hdn, hv, hv6⟩, by rw [hsn j h0 h1, if_pos e], ?_, ?_⟩ <;> rw [hset _ (by omega), if_pos rfl] <;> assumption
    · obtain ⟨d', v', hr', e', e1, e2⟩ := h.mem j h0 (by simp at h1; omega)
      refine ⟨d', v', hr', by rw [hsn j h0 h1, if_neg e]; exact e', ?_, ?_⟩ <;> rw [hset _ (by omega), if_neg (fun e3 => by rw [e3] at e1; omega)] <;> assumption
  · rw [hset _ (by omega)] at h4
    by_cases e : 61 * d' + v' = 61 * d + v
    · exact ⟨li.length, by omega, by simp only [List.length_append, List.length_cons, List.length_nil]; omega, by rw [hsn _ (by omega) (by simp only [List.length_append, List.length_cons, List.length_nil]; omega), if_pos rfl]; omega⟩
    · rw [if_neg e] at h4
      obtain ⟨j, j0, j1, j2⟩ := h.cov d' v' h0 h1 h2 h3 h4
      exact ⟨j, j0, by simp; omega, by rw [hsn j j0 (by simp; omega), if_neg (by omega)]; exact j2⟩
  · rw [hset _ (by omega)] at h4 ⊢
    by_cases e : 61 * d' + v' = 61 * d + v
    · rw [if_pos e]
      have e1 : d' = d := by omega
      have e2 : v' = v := by omega
      rw [e1, e2]; exact hr
    · rw [if_neg e] at h4 ⊢; exact h.snd d' v' h0 h1 h2 h3 h4
  · rw [hval j h0 (by omega), hval j' (by omega) h2]
    simp at h2
    by_cases e : j = li.length
    · rw [if_pos e, if_pos (by omega)]; omega
    · rw [if_neg e]
      by_cases e' : j' = li.length
      · rw [if_pos e']; exact hmon j h0 (by omega)
      · rw [if_neg e']; exact h.mon j j' h0 h1 (by omega)
  · rw [hval j h0 h1]
    simp at h1
    by_cases e : j = li.length
    · rw [if_pos e]; omega
    · rw [if_neg e]; exact h.bnd j h0 (by omega)
  · have := h.hom d' h0 h1 h2 h3
    rw [hset _ (by omega), if_neg (fun e => by rw [e] at this; omega)]; exact this
  · rw [List.countP_set (by omega), h.cnt]
    have e : L[(61 * d + v).toNat]'(by omega) = rd L (61 * d + v) := by
      unfold rd
      rw [List.getD_eq_getElem?_getD, List.getElem?_eq_getElem (by omega)]; rfl
    rw [e]
    simp only [decide_eq_true_eq]
    rw [if_neg (by omega), if_pos ht]
    simp
/-- What is met stays as it is. -/
def Keep (L L' li li' : List Int) : Prop := (∀ i : Int, 0 ≤ i → 0 ≤ rd L i → rd L' i = rd L i) ∧ (li.length ≤ li'.length) ∧ ∀ j : Int, 0 ≤ j → j < li.length → rd li' j = rd li j
theorem Keep.refl (L li : List Int) : Keep L L li li := ⟨fun _ _ _ => rfl, Nat.le_refl _, fun _ _ _ => rfl⟩
theorem Keep.trans {L L' L2 li li' li2 : List Int} (h : Keep L L' li li') (k : Keep L' L2 li' li2) : Keep L L2 li li2 :=
  ⟨fun i h0 h1 => by rw [k.1 i h0 (by rw [h.1 i h0 h1]; exact h1), h.1 i h0 h1], Nat.le_trans h.2.1 k.2.1, fun j h0 h1 => by rw [k.2.2 j h0 (by have := h.2.1; omega), h.2.2 j h0 h1]⟩
theorem Keep.add {L li : List Int} {i t : Int} (h0 : 0 ≤ i) (h1 : i < L.length) (hneg : rd L i < 0) : Keep L (L.set i.toNat t) li (li ++ [i]) :=
  ⟨fun j hj hp => by rw [rd_set h0 h1 hj, if_neg (fun e => by rw [e] at hp; omega)], by simp, fun j hj hl => by rw [rd_snoc hj (by omega), if_neg (by omega)]⟩
end
section
variable {P : PR} {x acc sh : Int}
theorem homeV_eq (h : Asks P x acc sh) {d : Int} (h0 : 0 ≤ d) (h1 : d ≤ P.en - x) : homeV x P.en sh d 0 = decide (P.en - x - d ≤ sh) := by
  have := h.x0; have := h.e1; have := h.s0; have := h.s1; have := h.x1
  unfold homeV
  rw [if_pos rfl, w64 (a := x + d) (by omega) (by omega), if_pos (by omega), w64 (a := P.en - sh) (by omega) (by omega)]
  simp only [decide_eq_decide]; omega
theorem ev_fl1 (h : Asks P x acc sh) (m : Nat) : ∀ (d : Int) (L li : List Int), P.en - x + 1 - d = m → 0 ≤ d → BI (P.gr x acc sh h.x1) L li 0 d → (∀ d' v : Int, d ≤ d' → d' ≤ P.en - x → 0 ≤ v → v ≤ 60 → rd L (61 * d' + v) < 0) → (∀ j : Int, 0 ≤ j → j < li.length → rd L (rd li j) = 0) →
    ∃ L' li', Ev (fun k => fl1 P.en x sh (P.en - x) k L li d) (L', li') ∧ BI (P.gr x acc sh h.x1) L' li' 0 (P.en - x + 1) := by
  have hx2 := h.x2
  have hn : (P.gr x acc sh h.x1).n = P.en - x := rfl
  have hs : (P.gr x acc sh h.x1).sh = sh := rfl
  induction m with
  | zero =>
    intro d L li hm hd hB _ _
    refine ⟨L, li, Ev.step (fun k => by rw [fl1]) (neg_ (by omega) (now_ rfl)), ?_⟩
    rw [show P.en - x + 1 = d by omega]; exact hB
  | succ m ih =>
    intro d L li hm hd hB hf hz
    have hl := hB.len
    have hsz := hB.size
    rw [hn] at hl hsz
    by_cases c : P.en - x - d ≤ sh
    · have hneg := hf d 0 (by omega) (by omega) (by omega) (by omega)
      have hB' : BI (P.gr x acc sh h.x1) (L.set (61 * d + 0).toNat 0) (li ++ [61 * d + 0]) 0 d := hB.add hd (by omega) (by omega) (by omega) hneg (by omega) (by omega) (by omega) ⟨rfl, by rw [hn, hs]; exact c⟩ (fun j h0 h1 => by rw [hz j h0 h1]; omega)
      have hB2 : BI (P.gr x acc sh h.x1) (L.set (61 * d + 0).toNat 0) (li ++ [61 * d + 0]) 0 (d + 1) := ⟨hB'.len, hB'.mem, hB'.cov, hB'.snd, hB'.mon, hB'.bnd, fun d' h0 h1 h2 h3 => by
        by_cases e : d' = d
        · rw [rd_set (by omega) (by omega) (by omega), if_pos (by omega)]
        · exact hB'.hom d' h0 (by omega) h2 h3, hB'.cnt⟩
      obtain ⟨L', li', e1, e2⟩ := ih (d + 1) _ _ (by omega) (by omega) hB2 (fun d' v h0 h1 h2 h3 => by rw [rd_set (by omega) (by omega) (by omega), if_neg (by omega)]; exact hf d' v (by omega) h1 h2 h3) (fun j h0 h1 => by
        simp at h1
        rw [rd_snoc h0 (by omega)]
        by_cases e : j = li.length
        · rw [if_pos e, rd_set (by omega) (by omega) (by omega), if_pos rfl]
        · have hp := hB.pos h0 (show j < li.length by omega)
          rw [if_neg e, rd_set (by omega) (by omega) hp.2.2.1, if_neg (fun e3 => by rw [e3] at hp; omega)]
          exact hz j h0 (by omega))
      refine ⟨L', li', ?_, e2⟩
      refine Ev.step (fun k => by rw [fl1, homeV_eq h hd (by omega), w64 (a := d * 61) (by omega) (by omega), w64 (a := d * 61 + 0) (by omega) (by omega), w64 (a := d + 1) (by omega) (by omega), show d * 61 + 0 = 61 * d + 0 by omega]) ?_
      exact pos_ (by omega) (pos_ (decide_eq_true c) (pos_ (by omega) (pos_ (by omega) (pos_ (by omega) e1))))
    · have hB2 : BI (P.gr x acc sh h.x1) L li 0 (d + 1) := ⟨hB.len, hB.mem, hB.cov, hB.snd, hB.mon, hB.bnd, fun d' h0 h1 h2 h3 => by
        by_cases e : d' = d
        · rw [hn, hs] at h3; omega
        · exact hB.hom d' h0 (by omega) h2 h3, hB.cnt⟩
      obtain ⟨L', li', e1, e2⟩ := ih (d + 1) _ _ (by omega) (by omega) hB2 (fun d' v h0 h1 h2 h3 => hf d' v (by omega) h1 h2 h3) hz
      refine ⟨L', li', ?_, e2⟩
      refine Ev.step (fun k => by rw [fl1, homeV_eq h hd (by omega), w64 (a := d + 1) (by omega) (by omega)]) ?_
      exact pos_ (by omega) (neg_ (by rw [decide_eq_false c]; decide) e1)
end
section
variable {P : PR} {x acc sh : Int}
theorem hiV_eq (h : Asks P x acc sh) {v : Int} (h0 : 0 ≤ v) (h1 : v ≤ 60) : hiV acc v = (P.gr x acc sh h.x1).hi v := by
  have := h.a1; have := h.a2
  show _ = if v + acc > 60 then 60 else v + acc
  unfold hiV
  rw [w64 (a := v + acc) (by omega) (by omega)]
theorem ev_fl3 (h : Asks P x acc sh) {i q w d c : Int} (hw0 : 0 ≤ w) (hw6 : w ≤ 60) (hd : 0 ≤ d) (hdn : d + w ≤ P.en - x) (hm : (P.gr x acc sh h.x1).mw d w = true) (hi : 0 ≤ i) (hq : q = 61 * (d + w) + w) (m : Nat) :
    ∀ (v : Int) (L li : List Int), 61 - v = m → 0 ≤ v → BI (P.gr x acc sh h.x1) L li c (P.en - x + 1) → i < li.length → rd li i = q → rd L q = c → ∃ L' li', Ev (fun k => fl3 P.ps P.zs P.tr P.en P.de acc x i w d k L li v) (L', li') ∧ BI (P.gr x acc sh h.x1) L' li' c (P.en - x + 1) ∧ Keep L L' li li' ∧
      ∀ u : Int, v ≤ u → u ≤ 60 → (P.gr x acc sh h.x1).E d u w → 0 ≤ rd L' (61 * d + u) ∧ rd L' (61 * d + u) ≤ c + 1 := by
  have hx2 := h.x2; have hx0 := h.x0; have he1 := h.e1; have hx1 := h.x1
  have hn : (P.gr x acc sh h.x1).n = P.en - x := rfl
  induction m with
  | zero =>
    intro v L li hmm hv hB _ _ _
    exact ⟨L, li, Ev.step (fun k => by rw [fl3]) (neg_ (by omega) (now_ rfl)), hB, Keep.refl L li, fun u h0 h1 => by omega⟩
  | succ m ih =>
    intro v L li hmm hv hB hil hiq hc
    have hl := hB.len
    have hsz := hB.size
    rw [hn] at hl hsz
    have hqp := hB.pos hi hil
    rw [hiq, hc, hn] at hqp
    have hcb := hB.bnd i hi hil
    rw [hiq, hc] at hcb
    have hst : ∀ (L' li' : List Int), (∃ L2 li2, Ev (fun k => fl3 P.ps P.zs P.tr P.en P.de acc x i w d k L' li' (v + 1)) (L2, li2) ∧ BI (P.gr x acc sh h.x1) L2 li2 c (P.en - x + 1) ∧ Keep L' L2 li' li2 ∧ ∀ u : Int, v + 1 ≤ u → u ≤ 60 → (P.gr x acc sh h.x1).E d u w → 0 ≤ rd L2 (61 * d + u) ∧ rd L2 (61 * d + u) ≤ c + 1) → Keep L L' li li' →
        ((P.gr x acc sh h.x1).E d v w → 0 ≤ rd L' (61 * d + v) ∧ rd L' (61 * d + v) ≤ c + 1) →
        (∀ r, Ev (fun k => fl3 P.ps P.zs P.tr P.en P.de acc x i w d k L' li' (v + 1)) r → Ev (fun k => fl3 P.ps P.zs P.tr P.en P.de acc x i w d k L li v) r) →
        ∃ L' li', Ev (fun k => fl3 P.ps P.zs P.tr P.en P.de acc x i w d k L li v) (L', li') ∧ BI (P.gr x acc sh h.x1) L' li' c (P.en - x + 1) ∧ Keep L L' li li' ∧ ∀ u : Int, v ≤ u → u ≤ 60 → (P.gr x acc sh h.x1).E d u w → 0 ≤ rd L' (61 * d + u) ∧ rd L' (61 * d + u) ≤ c + 1 := by
      intro L' li' hr hk hv1 hev
      obtain ⟨L2, li2, e1, e2, e3, e4⟩ := hr
      refine ⟨L2, li2, hev _ e1, e2, hk.trans e3, fun u h0 h1 he => ?_⟩
      by_cases e : u = v
      · rw [e] at he ⊢
        have := hv1 he
        rw [e3.1 _ (by omega) this.1]; exact this
      · exact e4 u (by omega) h1 he
    have hix : wrap64 (wrap64 (d * 61) + v) = 61 * d + v := by
      rw [w64 (a := d * 61) (by omega) (by omega), w64 (a := d * 61 + v) (by omega) (by omega)]; omega
    have hstep : ∀ {r}, Ev (fun k => if rd L (61 * d + v) < 0 then ((spec_l2rate.f k P.ps P.zs P.tr P.en P.de (x + d)).bind fun rt => ((spec_l2less.f v rt).bind fun lo => (if w ≥ lo then (if w ≤ hiV acc v then (if 0 ≤ i then (if i < (li.length : Int) then (if 0 ≤ rd li i then (if rd li i < (L.length : Int) then (if li.length ≤ 1000000 then fl3 P.ps P.zs P.tr P.en P.de acc x i w d k (L.set (61 * d + v).toNat (wrap64 (rd L (rd li i) + 1))) (li ++ [61 * d + v]) (v + 1) else none) else none) else none) else none) else none) else fl3 P.ps P.zs P.tr P.en P.de acc x i w d k L li (v + 1)) else fl3 P.ps P.zs P.tr P.en P.de acc x i w d k L li (v + 1)))) else fl3 P.ps P.zs P.tr P.en P.de acc x i w d k L li (v + 1)) r → Ev (fun k => fl3 P.ps P.zs P.tr P.en P.de acc x i w d k L li v) r := by
      intro r hr
      refine Ev.step (fun k => by rw [fl3, hix, w64 (a := x + d) (by omega) (by omega), w64 (a := v + 1) (by omega) (by omega)]) ?_
      exact pos_ (by omega) (pos_ (by omega) (pos_ (by omega) hr))
    by_cases hneg : rd L (61 * d + v) < 0
    · have hrate := ev_l2rate h.g (x := x + d) (by omega) (by omega)
      have hRb := h.g.R (x + d)
      have hless := less_eq' (v := v) (b := P.R (x + d)) (by omega) (by omega)
      by_cases c1 : w ≥ less v (P.R (x + d))
      · by_cases c2 : w ≤ (P.gr x acc sh h.x1).hi v
        · have hE : (P.gr x acc sh h.x1).E d v w := ⟨c1, c2, hm⟩
          have hsnd := hB.snd (d + w) w (by omega) (by rw [hn]; omega) hw0 hw6 (by rw [← hq, hc]; exact hqp.1)
          rw [← hq, hc] at hsnd
          have hR : (P.gr x acc sh h.x1).Reach (c + 1).toNat d v := by
            rw [show (c + 1).toNat = c.toNat + 1 by omega]
            exact ⟨w, hE, hsnd⟩
          have hB' := hB.add (d := d) (v := v) (t := c + 1) hd (by rw [hn]; omega) hv (by omega) hneg (by omega) (Int.le_refl _) (by omega) hR (fun j h0 h1 => (hB.pos h0 h1).2.1)
          have hk : Keep L (L.set (61 * d + v).toNat (c + 1)) li (li ++ [61 * d + v]) := Keep.add (by omega) (by omega) hneg
          refine hst _ _ (ih (v + 1) _ _ (by omega) (by omega) hB' (by simp only [List.length_append, List.length_cons, List.length_nil]; omega) (by rw [hk.2.2 i hi hil]; exact hiq) (by rw [hk.1 q (by omega) (by omega)]; exact hc)) hk (fun _ => ?_) (fun r hr => hstep ?_)
          · rw [rd_set (by omega) (by omega) (by omega), if_pos rfl]; omega
          · refine pos_ hneg (Ev.bind hrate (bindc hless (pos_ c1 ?_)))
            rw [hiV_eq h hv (by omega)]
            refine pos_ c2 (pos_ hi (pos_ hil ?_))
            rw [hiq, hc, w64 (a := c + 1) (by omega) (by omega)]
            exact pos_ (by omega) (pos_ (by omega) (pos_ (by omega) hr))
        · refine hst L li (ih (v + 1) L li (by omega) (by omega) hB hil hiq hc) (Keep.refl L li) (fun he => absurd he.2.1 c2) (fun r hr => hstep ?_)
          refine pos_ hneg (Ev.bind hrate (bindc hless (pos_ c1 ?_)))
          rw [hiV_eq h hv (by omega)]
          exact neg_ c2 hr
      · refine hst L li (ih (v + 1) L li (by omega) (by omega) hB hil hiq hc) (Keep.refl L li) (fun he => absurd he.1 c1) (fun r hr => hstep ?_)
        exact pos_ hneg (Ev.bind hrate (bindc hless (neg_ c1 hr)))
    · refine hst L li (ih (v + 1) L li (by omega) (by omega) hB hil hiq hc) (Keep.refl L li) (fun _ => ?_) (fun r hr => hstep (neg_ hneg hr))
      obtain ⟨j, j0, j1, j2⟩ := hB.cov d v hd (by rw [hn]; omega) hv (by omega) (by omega)
      have := hB.pos j0 j1
      rw [j2] at this
      exact ⟨this.1, this.2.1⟩
/-- All states before those that were looked at are met, by one tick more at most. -/
def Done (G : Gr) (L li : List Int) (i : Int) : Prop := ∀ d v w : Int, 0 ≤ d → 0 ≤ v → v ≤ 60 → G.E d v w → (∃ j : Int, 0 ≤ j ∧ j < i ∧ j < li.length ∧ rd li j = 61 * (d + w) + w) → 0 ≤ rd L (61 * d + v) ∧ rd L (61 * d + v) ≤ rd L (61 * (d + w) + w) + 1
theorem ev_fl2 (h : Asks P x acc sh) (m : Nat) : ∀ (i c : Int) (L li : List Int), 61 * (P.en - x + 1) - i = m → 0 ≤ i → i ≤ li.length → BI (P.gr x acc sh h.x1) L li c (P.en - x + 1) → (∀ j : Int, i ≤ j → j < li.length → c ≤ rd L (rd li j)) → Done (P.gr x acc sh h.x1) L li i →
    ∃ L' li' c', Ev (fun k => fl2 P.ps P.zs P.tr P.en P.de acc x k L li i) L' ∧ BI (P.gr x acc sh h.x1) L' li' c' (P.en - x + 1) ∧ Done (P.gr x acc sh h.x1) L' li' li'.length := by
  have hx2 := h.x2; have hx0 := h.x0; have he1 := h.e1; have hx1 := h.x1
  have hn : (P.gr x acc sh h.x1).n = P.en - x := rfl
  induction m with
  | zero =>
    intro i c L li hm hi hil hB _ hD
    have hsz := hB.size
    rw [hn] at hsz
    refine ⟨L, li, c, Ev.step (fun k => by rw [fl2]) (neg_ (by omega) (now_ rfl)), hB, ?_⟩
    rw [show (li.length : Int) = i by omega]; exact hD
  | succ m ih =>
    intro i c L li hm hi hil hB hc hD
    have hsz := hB.size
    rw [hn] at hsz
    by_cases c0 : i < (li.length : Int)
    · obtain ⟨Dq, w, hr, hq, hq0, hq1⟩ := hB.mem i hi c0
      rw [hn] at hr
      have hct : Int.tmod (61 * Dq + w) 61 = w := by rw [Int.tmod_eq_emod_of_nonneg (by omega)]; omega
      have hcd : Int.tdiv (61 * Dq + w) 61 = Dq := by rw [Int.tdiv_eq_ediv_of_nonneg (by omega)]; omega
      have hB2 : BI (P.gr x acc sh h.x1) L li (rd L (rd li i)) (P.en - x + 1) := hB.raise (hc i (Int.le_refl _) c0)
      have hstep : ∀ {r}, Ev (fun k => if Dq - w < 0 then fl2 P.ps P.zs P.tr P.en P.de acc x k L li (i + 1) else ((spec_l3may.f k P.ps P.zs P.tr P.en P.de (wrap64 (x + (Dq - w))) w).bind fun mm => (if mm = true then ((fl3 P.ps P.zs P.tr P.en P.de acc x i w (Dq - w) k L li 0).bind fun p => fl2 P.ps P.zs P.tr P.en P.de acc x k p.1 p.2 (i + 1)) else fl2 P.ps P.zs P.tr P.en P.de acc x k L li (i + 1)))) r → Ev (fun k => fl2 P.ps P.zs P.tr P.en P.de acc x k L li i) r := by
        intro r hr'
        refine Ev.step (fun k => by rw [fl2, hq, hct, hcd, w64 (a := Dq) (by omega) (by omega), w64 (a := Dq - w) (by omega) (by omega), w64 (a := i + 1) (by omega) (by omega)]) ?_
        exact pos_ c0 (pos_ hi hr')
      have hmono : ∀ j : Int, i + 1 ≤ j → j < li.length → rd L (rd li i) ≤ rd L (rd li j) := fun j h0 h1 => hB.mon i j hi (by omega) h1
      have hskip : ¬ (0 ≤ Dq - w ∧ (P.gr x acc sh h.x1).mw (Dq - w) w = true) → Done (P.gr x acc sh h.x1) L li (i + 1) := by
        intro hne d v w' h0 h1 h2 he hj
        obtain ⟨j, j0, j1, j2, j3⟩ := hj
        by_cases e : j = i
        · have hrg := he.range
          rw [e, hq] at j3
          have e1 : w' = w := by omega
          have e2 : d = Dq - w := by omega
          exact absurd ⟨by omega, by rw [← e2, ← e1]; exact he.2.2⟩ hne
        · exact hD d v w' h0 h1 h2 he ⟨j, j0, by omega, j2, j3⟩
      by_cases c1 : Dq - w < 0
      · obtain ⟨L', li', c', e1, e2, e3⟩ := ih (i + 1) _ L li (by omega) (by omega) (by omega) hB2 hmono (hskip (fun e => by omega))
        exact ⟨L', li', c', hstep (pos_ c1 e1), e2, e3⟩
      · have hmay := ev_may' h.g (x := x + (Dq - w)) (v := w) (by omega) (by omega) (by omega) (by omega)
        have hmw : (P.gr x acc sh h.x1).mw (Dq - w) w = may P.O P.en (x + (Dq - w)) w := rfl
        cases e : may P.O P.en (x + (Dq - w)) w with
        | false =>
          rw [e] at hmay
          obtain ⟨L', li', c', e1, e2, e3⟩ := ih (i + 1) _ L li (by omega) (by omega) (by omega) hB2 hmono (hskip (fun z => by have := z.2; rw [hmw, e] at this; cases this))
          refine ⟨L', li', c', hstep (neg_ c1 ?_), e2, e3⟩
          rw [w64 (a := x + (Dq - w)) (by omega) (by omega)]
          exact Ev.bind hmay (neg_ (by decide) e1)
        | true =>
          rw [e] at hmay
          obtain ⟨L1, li1, f1, f2, f3, f4⟩ := ev_fl3 h (i := i) (q := rd li i) (w := w) (d := Dq - w) (c := rd L (rd li i)) (by omega) (by omega) (by omega) (by omega) (by rw [hmw]; exact e) hi (by rw [hq]; omega) 61 0 L li (by omega) (by omega) hB2 c0 rfl rfl
          have hlen1 := f3.2.1
          have hci : rd L1 (rd li i) = rd L (rd li i) := f3.1 _ (by rw [hq]; omega) (by rw [hq]; exact hq0)
          have hli1 : rd li1 i = rd li i := f3.2.2 i hi c0
          obtain ⟨L', li', c', e1, e2, e3⟩ := ih (i + 1) _ L1 li1 (by omega) (by omega) (by omega) f2 (fun j h0 h1 => by
            have := f2.mon i j hi (by omega) h1
            rw [hli1, hci] at this; exact this) (fun d v w' h0 h1 h2 he hj => by
            obtain ⟨j, j0, j1, j2, j3⟩ := hj
            have hrg := he.range
            rw [hn] at hrg
            by_cases ej : j = i
            · rw [ej, hli1, hq] at j3
              have e1 : w' = w := by omega
              have e2 : d = Dq - w := by omega
              have := f4 v h1 h2 (by rw [← e2, ← e1]; exact he)
              rw [← e2] at this
              rw [show 61 * (d + w') + w' = 61 * Dq + w by omega, ← hq, hci]
              exact this
            · rw [f3.2.2 j j0 (by omega)] at j3
              have hp := hD d v w' h0 h1 h2 he ⟨j, j0, by omega, by omega, j3⟩
              have hpj := hB.pos j0 (show j < li.length by omega)
              rw [j3] at hpj
              rw [f3.1 (61 * d + v) (by omega) hp.1, f3.1 (61 * (d + w') + w') (by omega) hpj.1]
              exact hp)
          refine ⟨L', li', c', hstep (neg_ c1 ?_), e2, e3⟩
          rw [w64 (a := x + (Dq - w)) (by omega) (by omega)]
          exact Ev.bind hmay (pos_ rfl (Ev.bind f1 e1))
    · refine ⟨L, li, c, Ev.step (fun k => by rw [fl2]) (neg_ c0 (now_ rfl)), hB, ?_⟩
      rw [show (li.length : Int) = i by omega]; exact hD
/-- What the search leaves: at each state the fewest ticks, or something below nought where there is no way. -/
theorem found (G : Gr) {L li : List Int} {c : Int} (hB : BI G L li c (G.n + 1)) (hD : Done G L li li.length) (t : Nat) : ∀ d v : Int, 0 ≤ d → d ≤ G.n → 0 ≤ v → v ≤ 60 → G.Reach t d v → 0 ≤ rd L (61 * d + v) ∧ rd L (61 * d + v) ≤ t := by
  induction t with
  | zero =>
    intro d v h0 h1 h2 h3 hr
    obtain ⟨rfl, hh⟩ := hr
    have := hB.hom d h0 (by omega) h1 hh
    rw [show 61 * d + 0 = 61 * d by omega, this]; omega
  | succ t ih =>
    intro d v h0 h1 h2 h3 hr
    obtain ⟨w, he, hr'⟩ := hr
    have hrg := he.range
    have hi := ih (d + w) w (by omega) hrg.2.2 hrg.1 hrg.2.1 hr'
    obtain ⟨j, j0, j1, j2⟩ := hB.cov (d + w) w (by omega) hrg.2.2 hrg.1 hrg.2.1 hi.1
    have := hD d v w h0 h2 h3 he ⟨j, j0, j1, j1, j2⟩
    omega
end
end Go.Proofs.Ytanjbdgmnecacaa.Pure
