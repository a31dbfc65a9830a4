/- The program's table: from the end back, at each place and speed, the fewest ticks. No condition but what each lemma says. -/
import Derived.Test.YtanjbdgmnecacaaPRx16
import Derived.Test.YtanjbdgmnecacaaPrR
import Derived.Test.YtanjbdgmnecacaaMathR
set_option linter.unusedVariables false
set_option linter.unusedSimpArgs false
namespace Go.Proofs.Ytanjbdgmnecacaa.Pure
open Go.RowKit Go.Proofs.YtanjbdgmnecacaaW.PrintWords Go.Proofs.YtanjbdgmnecacaaW.PrintLast Go.Proofs.Ytanjbdgmnecacaa.PR Go.Proofs.Ytanjbdgmnecacaa.M
section
def g2 {α : Type} (T : List (List α)) (z : α) (i j : Int) : α := (T.getD i.toNat []).getD j.toNat z
def Sq {α : Type} (T : List (List α)) (N : Int) : Prop := (T.length : Int) = N ∧ ∀ d : Int, 0 ≤ d → d < N → (T.getD d.toNat []).length = 61
theorem Sq.up {α : Type} {T : List (List α)} {N i j : Int} {v : α} (h : Sq T N) (hi : 0 ≤ i) (hn : i < N) : Sq (up2 T i j v) N := by
  refine ⟨by rw [up2_len]; exact h.1, fun d h0 h1 => ?_⟩
  unfold up2
  rw [gt_set T [] i d _ hi (by have := h.1; omega) h0]
  split
  · rw [List.length_set]; exact h.2 i hi hn
  · exact h.2 d h0 h1
theorem g2_up {α : Type} {T : List (List α)} {N i j d u : Int} {v z : α} (h : Sq T N) (hi : 0 ≤ i) (hn : i < N) (hj : 0 ≤ j) (h61 : j < 61) (hd : 0 ≤ d) (hu : 0 ≤ u) : g2 (up2 T i j v) z d u = if d = i ∧ u = j then v else g2 T z d u := by
  unfold g2 up2
  rw [gt_set T [] i d _ hi (by have := h.1; omega) hd]
  have hr := h.2 i hi hn
  by_cases c : d = i
  · subst c
    rw [if_pos rfl, gt_set _ z j u v hj (by omega) hu]
    by_cases c2 : u = j
    · rw [if_pos c2, if_pos ⟨rfl, c2⟩]
    · rw [if_neg c2, if_neg (fun e => c2 e.2)]
  · rw [if_neg c, if_neg (fun e => c e.1)]
def PR.gr (P : PR) (x acc sh : Int) (h : x ≤ P.en) : Gr where
  n := P.en - x
  sh := sh
  lo := fun d v => less v (P.R (x + d))
  hi := fun v => if v + acc > 60 then 60 else v + acc
  mw := fun d w => may P.O P.en (x + d) w
  n0 := by omega
  lo0 := fun d v => less_nonneg v _
  hi6 := fun v => by split <;> omega
  mw0 := fun d hd => by unfold may; rw [if_pos rfl]; simp; omega
  mwn := fun d w hw => by unfold may at hw; split at hw <;> simp at hw <;> omega
variable {P : PR} {x acc sh : Int}
/-- The table behind place a, and at it up to speed v. -/
def TK (G : Gr) (T : List (List Int)) (a v : Int) : Prop := Sq T (G.n + 1) ∧ ∀ d u : Int, 0 ≤ d → d ≤ G.n → 0 ≤ u → u ≤ 60 → (d > a ∨ (d = a ∧ u < v)) → g2 T 0 d u = G.D d u
def BK (G : Gr) (B : List (List Bool)) (a v : Int) : Prop := Sq B (G.n + 1) ∧ ∀ d u : Int, 0 ≤ d → d ≤ G.n → 0 ≤ u → u ≤ 60 → g2 B false d u = if (d > a ∨ (d = a ∧ u < v)) ∧ 1 ≤ u then G.mw d u else false
structure Asks (P : PR) (x acc sh : Int) : Prop where
  g : Good P
  a1 : 1 ≤ acc
  a2 : acc ≤ 20
  x0 : 0 ≤ x
  x1 : x ≤ P.en
  x2 : P.en - x ≤ 2000
  s0 : 0 ≤ sh
  s1 : sh ≤ 2000
  e1 : P.en ≤ 100000000
theorem Asks.of (h : P.askP acc x sh) : Asks P x acc sh := by
  obtain ⟨h0, h1, h2, h3, h4⟩ := h
  have hg : Good P := (pok_zero ..).mp h0
  have ht := hg.tot
  have he := hg.en1
  exact ⟨hg, h1.1, h1.2, h2.1, h2.2, h3, h4.1, h4.2, by omega⟩
theorem hi_eq (h : Asks P x acc sh) {z : Int} (h0 : 0 ≤ z) (h1 : z ≤ 60) : hiI acc z = (P.gr x acc sh h.x1).hi z := by
  have := h.a1; have := h.a2
  show _ = if z + acc > 60 then 60 else z + acc
  unfold hiI
  rw [w64 (a := z + acc) (by omega) (by omega)]
  split <;> split <;> omega
theorem lo_eq (h : Asks P x acc sh) {a z : Int} (h0 : 0 ≤ z) (h1 : z ≤ 60) : loI (P.R (x + a)) z = (P.gr x acc sh h.x1).lo a z := by
  have := h.g.R (x + a)
  show _ = less z (P.R (x + a))
  unfold loI less
  rw [w64 (a := z - P.R (x + a)) (by omega) (by omega)]
  split <;> split <;> omega
theorem ev_il3 (h : Asks P x acc sh) {T : List (List Int)} {B : List (List Bool)} {a z : Int} (hT : TK (P.gr x acc sh h.x1) T a z) (hB : BK (P.gr x acc sh h.x1) B a 61) (ha : 0 ≤ a) (han : a ≤ P.en - x) (hz : 0 ≤ z) (hz6 : z ≤ 60) (m : Nat) :
    ∀ q best : Int, (P.gr x acc sh h.x1).hi z + 1 - q ≤ m → (P.gr x acc sh h.x1).lo a z ≤ q → (P.gr x acc sh h.x1).Best a z q best → Ev (fun k => il3 acc T B a z k q best) ((P.gr x acc sh h.x1).D a z) := by
  have hhi := hi_eq h hz hz6
  have h6 := (P.gr x acc sh h.x1).hi6 z
  have hl0 := (P.gr x acc sh h.x1).lo0 a z
  have hx2 := h.x2
  have hn : (P.gr x acc sh h.x1).n = P.en - x := rfl
  have tl := hT.1.1
  have bl := hB.1.1
  rw [hn] at tl bl
  induction m with
  | zero =>
    intro q best hm hq hb
    refine Ev.step (fun k => by rw [il3, hhi]) (neg_ (by omega) (now_ (hb.done (by omega))))
  | succ m ih =>
    intro q best hm hq hb
    by_cases c : q ≤ (P.gr x acc sh h.x1).hi z
    · refine Ev.step (fun k => by rw [il3, hhi, w64 (a := q + 1) (by omega) (by omega)]) (pos_ c ?_)
      by_cases c1 : q = 0
      · subst c1
        refine pos_ rfl ?_
        by_cases c2 : z > 0
        · refine pos_ c2 (pos_ (by omega) ?_)
          have hv : rd2 T a 0 = (P.gr x acc sh h.x1).D a 0 := hT.2 a 0 ha (by omega) (by omega) (by omega) (.inr ⟨rfl, c2⟩)
          have hbd := (P.gr x acc sh h.x1).D_bounds a 0
          unfold NEV at hbd
          rw [hv, w64 (a := (P.gr x acc sh h.x1).D a 0 + 1) (by omega) (by omega)]
          refine ih (0 + 1) _ (by omega) (by omega) ?_
          exact hb.take ⟨hq, c, (P.gr x acc sh h.x1).mw0 a (by omega)⟩ (by rw [show a + 0 = a by omega])
        · exact neg_ c2 (ih (0 + 1) best (by omega) (by omega) (hb.skip (fun _ => ⟨rfl, by omega⟩)))
      · refine neg_ c1 (pos_ (by omega) (pos_ (by omega) ?_))
        have hv : rdB B a q = (P.gr x acc sh h.x1).mw a q := by
          have := hB.2 a q ha (by omega) (by omega) (by omega)
          rw [if_pos ⟨.inr ⟨rfl, by omega⟩, by omega⟩] at this
          exact this
        rw [hv, w64 (a := a + q) (by omega) (by omega)]
        by_cases c2 : (P.gr x acc sh h.x1).mw a q = true
        · have he : (P.gr x acc sh h.x1).E a z q := ⟨hq, c, c2⟩
          have hr := he.range
          refine pos_ c2 (pos_ (by omega) ?_)
          have hw : rd2 T (a + q) q = (P.gr x acc sh h.x1).D (a + q) q := hT.2 (a + q) q (by omega) (by omega) (by omega) (by omega) (.inl (by omega))
          have hbd := (P.gr x acc sh h.x1).D_bounds (a + q) q
          unfold NEV at hbd
          rw [hw, w64 (a := (P.gr x acc sh h.x1).D (a + q) q + 1) (by omega) (by omega)]
          exact ih (q + 1) _ (by omega) (by omega) (hb.take he rfl)
        · exact neg_ c2 (ih (q + 1) best (by omega) (by omega) (hb.skip (fun he => absurd he.2.2 c2)))
    · refine Ev.step (fun k => by rw [il3, hhi]) (neg_ c (now_ (hb.done (by omega))))
theorem ev_il2 (h : Asks P x acc sh) {B : List (List Bool)} {a : Int} (hB : BK (P.gr x acc sh h.x1) B a 61) (ha : 0 ≤ a) (han : a ≤ P.en - x) (m : Nat) :
    ∀ (z : Int) (T : List (List Int)), 61 - z = m → 0 ≤ z → TK (P.gr x acc sh h.x1) T a z → ∃ T', Ev (fun k => il2 P.ps P.zs P.tr P.en P.de acc x sh (P.en - x) a B k T z) T' ∧ TK (P.gr x acc sh h.x1) T' a 61 := by
  have hx2 := h.x2; have hx0 := h.x0; have hx1 := h.x1; have he1 := h.e1
  have hn : (P.gr x acc sh h.x1).n = P.en - x := rfl
  induction m with
  | zero =>
    intro z T hm hz hT
    refine ⟨T, Ev.step (fun k => by rw [il2]) (neg_ (by omega) (now_ rfl)), ?_⟩
    rw [show (61 : Int) = z by omega]; exact hT
  | succ m ih =>
    intro z T hm hz hT
    have tl := hT.1.1
    rw [hn] at tl
    have hT' : TK (P.gr x acc sh h.x1) (up2 T a z ((P.gr x acc sh h.x1).D a z)) a (z + 1) := by
      refine ⟨hT.1.up ha (by omega), fun d u h0 h1 h2 h3 h4 => ?_⟩
      rw [g2_up hT.1 ha (by omega) hz (by omega) h0 h2]
      by_cases c : d = a ∧ u = z
      · rw [if_pos c, c.1, c.2]
      · rw [if_neg c]; exact hT.2 d u h0 h1 h2 h3 (by omega)
    obtain ⟨T', h1, h2⟩ := ih (z + 1) _ (by omega) (by omega) hT'
    refine ⟨T', ?_, h2⟩
    refine Ev.step (fun k => by rw [il2, w64 (a := x + a) (by omega) (by omega), w64 (a := z + 1) (by omega) (by omega)]) (pos_ (by omega) (Ev.bind (ev_brakeAt h.g (by omega) (by omega)) ?_))
    rw [lo_eq h hz (by omega)]
    have hs : (P.gr x acc sh h.x1).Best a z ((P.gr x acc sh h.x1).lo a z) (bsI (P.en - x) a sh z) := by
      refine Gr.Best.start (fun hh => ?_) (fun hh => ?_)
      · unfold bsI; rw [if_pos hh.1, w64 (by omega) (by omega), if_pos (show P.en - x - a ≤ sh from hh.2)]
      · unfold bsI
        rw [w64 (by omega) (by omega)]
        by_cases c : z = 0
        · rw [if_pos c, if_neg (show ¬ P.en - x - a ≤ sh from fun z2 => hh ⟨c, z2⟩)]; rfl
        · rw [if_neg c]; rfl
    refine Ev.bind (ev_il3 h hT hB ha han hz (by omega) 62 _ _ (by have := (P.gr x acc sh h.x1).hi6 z; have := (P.gr x acc sh h.x1).lo0 a z; omega) (Int.le_refl _) hs) ?_
    exact pos_ (by omega) h1
theorem ev_il1 (h : Asks P x acc sh) {a : Int} (ha : 0 ≤ a) (han : a ≤ P.en - x) (m : Nat) :
    ∀ (z : Int) (B : List (List Bool)), 61 - z = m → 1 ≤ z → BK (P.gr x acc sh h.x1) B a z → ∃ B', Ev (fun k => il1 P.ps P.zs P.tr P.en P.de x (P.en - x) a k B z) B' ∧ BK (P.gr x acc sh h.x1) B' a 61 := by
  have hx2 := h.x2; have hx0 := h.x0; have hx1 := h.x1; have he1 := h.e1
  have hn : (P.gr x acc sh h.x1).n = P.en - x := rfl
  induction m with
  | zero =>
    intro z B hm hz hB
    refine ⟨B, Ev.step (fun k => by rw [il1]) (neg_ (by omega) (now_ rfl)), ?_⟩
    rw [show (61 : Int) = z by omega]; exact hB
  | succ m ih =>
    intro z B hm hz hB
    have bl := hB.1.1
    rw [hn] at bl
    by_cases c : a + z ≤ P.en - x
    · have hv : decide (z ≤ P.O (x + a) (x + a + z)) = (P.gr x acc sh h.x1).mw a z := by
        show _ = may P.O P.en (x + a) z
        unfold may; rw [if_neg (by omega), decide_eq_true (show x + a + z ≤ P.en by omega), Bool.true_and]
      have hB' : BK (P.gr x acc sh h.x1) (up2 B a z (decide (z ≤ P.O (x + a) (x + a + z)))) a (z + 1) := by
        refine ⟨hB.1.up ha (by omega), fun d u h0 h1 h2 h3 => ?_⟩
        rw [g2_up hB.1 ha (by omega) (by omega) (by omega) h0 h2]
        by_cases c2 : d = a ∧ u = z
        · rw [if_pos c2, hv, c2.1, c2.2, if_pos ⟨.inr ⟨rfl, by omega⟩, hz⟩]
        · rw [if_neg c2, hB.2 d u h0 h1 h2 h3]
          by_cases c3 : (d > a ∨ (d = a ∧ u < z)) ∧ 1 ≤ u
          · rw [if_pos c3, if_pos (by omega)]
          · rw [if_neg c3, if_neg (by omega)]
      obtain ⟨B', h1, h2⟩ := ih (z + 1) _ (by omega) (by omega) hB'
      refine ⟨B', ?_, h2⟩
      refine Ev.step (fun k => by rw [il1, w64 (a := a + z) (by omega) (by omega), w64 (a := x + a) (by omega) (by omega), w64 (a := x + a + z) (by omega) (by omega), w64 (a := z + 1) (by omega) (by omega)]) (pos_ (by omega) (Ev.bind (ev_touched h.g (x + a) (x + a + z)) (pos_ (show 0 ≤ a ∧ a < (B.length : Int) ∧ 0 ≤ z ∧ z < 61 by omega) h1)))
    · refine ⟨B, Ev.step (fun k => by rw [il1, w64 (a := a + z) (by omega) (by omega)]) (neg_ (by omega) (now_ rfl)), hB.1, fun d u h0 h1 h2 h3 => ?_⟩
      rw [hB.2 d u h0 h1 h2 h3]
      by_cases c3 : (d > a ∨ (d = a ∧ u < z)) ∧ 1 ≤ u
      · rw [if_pos c3, if_pos (by omega)]
      · rw [if_neg c3]
        by_cases c4 : (d > a ∨ (d = a ∧ u < 61)) ∧ 1 ≤ u
        · rw [if_pos c4]
          cases e : (P.gr x acc sh h.x1).mw d u with
          | false => rfl
          | true => have := (P.gr x acc sh h.x1).mwn d u e; omega
        · rw [if_neg c4]
theorem ev_il0 (h : Asks P x acc sh) (m : Nat) : ∀ (a : Int) (T : List (List Int)) (B : List (List Bool)), a + 1 = m → a ≤ P.en - x → TK (P.gr x acc sh h.x1) T a 0 → BK (P.gr x acc sh h.x1) B a 0 →
    ∃ T' B', Ev (fun k => il0 P.ps P.zs P.tr P.en P.de acc x sh (P.en - x) k T B a) (T', B') ∧ TK (P.gr x acc sh h.x1) T' (-1) 0 ∧ BK (P.gr x acc sh h.x1) B' (-1) 0 := by
  have hx2 := h.x2
  induction m with
  | zero =>
    intro a T B hm han hT hB
    refine ⟨T, B, Ev.step (fun k => by rw [il0]) (neg_ (by omega) (now_ rfl)), ?_, ?_⟩
    · rw [show (-1 : Int) = a by omega]; exact hT
    · rw [show (-1 : Int) = a by omega]; exact hB
  | succ m ih =>
    intro a T B hm han hT hB
    have hB1 : BK (P.gr x acc sh h.x1) B a 1 := ⟨hB.1, fun d u h0 h1 h2 h3 => by
      rw [hB.2 d u h0 h1 h2 h3]
      by_cases c : (d > a ∨ (d = a ∧ u < 0)) ∧ 1 ≤ u
      · rw [if_pos c, if_pos (by omega)]
      · rw [if_neg c, if_neg (by omega)]⟩
    obtain ⟨B1, e1, k1⟩ := ev_il1 h (by omega) han 60 1 B (by omega) (by omega) hB1
    obtain ⟨T1, e2, k2⟩ := ev_il2 h k1 (by omega) han 61 0 T (by omega) (by omega) hT
    have hT2 : TK (P.gr x acc sh h.x1) T1 (a - 1) 0 := ⟨k2.1, fun d u h0 h1 h2 h3 h4 => k2.2 d u h0 h1 h2 h3 (by omega)⟩
    have hB2 : BK (P.gr x acc sh h.x1) B1 (a - 1) 0 := ⟨k1.1, fun d u h0 h1 h2 h3 => by
      rw [k1.2 d u h0 h1 h2 h3]
      by_cases c : (d > a ∨ (d = a ∧ u < 61)) ∧ 1 ≤ u
      · rw [if_pos c, if_pos (by omega)]
      · rw [if_neg c, if_neg (by omega)]⟩
    obtain ⟨T', B', e3, k3, k4⟩ := ih (a - 1) T1 B1 (by omega) (by omega) hT2 hB2
    refine ⟨T', B', ?_, k3, k4⟩
    exact Ev.step (fun k => by rw [il0, w64 (a := a - 1) (by omega) (by omega)]) (pos_ (by omega) (Ev.bind e1 (Ev.bind e2 e3)))
end
end Go.Proofs.Ytanjbdgmnecacaa.Pure
