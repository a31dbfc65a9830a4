/- The fewest ticks from a place with a speed, as a plain law: what a table filled from the end back holds, and what a search from home back holds, is one distance. No condition but what each lemma says. -/
import Derived.Test.YtanjbdgmnecacaaMathB
set_option linter.unusedVariables false
set_option linter.unusedSimpArgs false
namespace Go.Proofs.Ytanjbdgmnecacaa.M
open Go.RowKit Go.Proofs.YtanjbdgmnecacaaW.PrintWords
section
theorem gt_set {α : Type} (L : List α) (z : α) (i j : Int) (x : α) (hi : 0 ≤ i) (hl : i < L.length) (hj : 0 ≤ j) : (L.set i.toNat x).getD j.toNat z = if j = i then x else L.getD j.toNat z := by
  rw [List.getD_eq_getElem?_getD, List.getD_eq_getElem?_getD]
  by_cases c : j = i
  · subst c; rw [if_pos rfl, List.getElem?_set_self (by omega)]; rfl
  · rw [if_neg c, List.getElem?_set_ne (by omega)]
theorem gt_snoc {α : Type} (L : List α) (z : α) (j : Int) (x : α) (hj : 0 ≤ j) (hl : j ≤ L.length) : (L ++ [x]).getD j.toNat z = if j = L.length then x else L.getD j.toNat z := by
  rw [List.getD_eq_getElem?_getD, List.getD_eq_getElem?_getD]
  by_cases c : j = L.length
  · rw [if_pos c, List.getElem?_append_right (by omega), show j.toNat - L.length = 0 by omega]; rfl
  · rw [if_neg c, List.getElem?_append_left (by omega)]
/-- A graph of states: which speeds may follow at a place. -/
structure Gr where
  n : Int
  sh : Int
  lo : Int → Int → Int
  hi : Int → Int
  mw : Int → Int → Bool
  n0 : 0 ≤ n
  lo0 : ∀ d v, 0 ≤ lo d v
  hi6 : ∀ v, hi v ≤ 60
  mw0 : ∀ d, d ≤ n → mw d 0 = true
  mwn : ∀ d w, mw d w = true → d + w ≤ n
variable (G : Gr)
def Gr.E (d v w : Int) : Prop := G.lo d v ≤ w ∧ w ≤ G.hi v ∧ G.mw d w = true
def Gr.home (d v : Int) : Prop := v = 0 ∧ G.n - d ≤ G.sh
def Gr.Reach : Nat → Int → Int → Prop
  | 0, d, v => G.home d v
  | t + 1, d, v => ∃ w, G.E d v w ∧ Gr.Reach t (d + w) w
theorem Gr.E.range {G : Gr} {d v w : Int} (h : G.E d v w) : 0 ≤ w ∧ w ≤ 60 ∧ d + w ≤ G.n := ⟨by have := G.lo0 d v; have := h.1; omega, by have := G.hi6 v; have := h.2.1; omega, G.mwn d w h.2.2⟩
def NEV : Int := 1073741824
theorem least {p : Nat → Prop} (h : ∃ t, p t) : ∃ t, p t ∧ ∀ u, u < t → ¬ p u := by
  obtain ⟨t, ht⟩ := h
  induction t using Nat.strongRecOn with
  | ind t ih =>
    by_cases c : ∃ u, u < t ∧ p u
    · obtain ⟨u, hu, hp⟩ := c; exact ih u hu hp
    · exact ⟨t, ht, fun u hu hp => c ⟨u, hu, hp⟩⟩
open Classical in
/-- The fewest ticks, at most a great number. -/
noncomputable def Gr.D (d v : Int) : Int := if h : ∃ t, G.Reach t d v then min ((least h).choose : Int) NEV else NEV
theorem Gr.D_cases (d v : Int) : (∃ t : Nat, G.Reach t d v ∧ (∀ u, u < t → ¬ G.Reach u d v) ∧ G.D d v = min (t : Int) NEV) ∨ ((∀ t, ¬ G.Reach t d v) ∧ G.D d v = NEV) := by
  by_cases h : ∃ t, G.Reach t d v
  · left
    refine ⟨(least h).choose, (least h).choose_spec.1, (least h).choose_spec.2, ?_⟩
    unfold Gr.D; rw [dif_pos h]
  · right
    refine ⟨fun t ht => h ⟨t, ht⟩, ?_⟩
    unfold Gr.D; rw [dif_neg h]
theorem Gr.D_bounds (d v : Int) : 0 ≤ G.D d v ∧ G.D d v ≤ NEV := by
  rcases G.D_cases d v with ⟨t, _, _, e⟩ | ⟨_, e⟩ <;> rw [e] <;> unfold NEV <;> omega
theorem Gr.D_le {d v : Int} {t : Nat} (h : G.Reach t d v) : G.D d v ≤ t := by
  rcases G.D_cases d v with ⟨u, _, hm, e⟩ | ⟨hn, _⟩
  · have : u ≤ t := Nat.le_of_not_lt (fun c => hm t c h)
    rw [e]; omega
  · exact absurd h (hn t)
theorem Gr.D_reach {d v : Int} (h : G.D d v < NEV) : G.Reach (G.D d v).toNat d v := by
  rcases G.D_cases d v with ⟨u, hu, _, e⟩ | ⟨_, e⟩
  · rw [e] at h ⊢
    rw [show (min (u : Int) NEV).toNat = u by omega]; exact hu
  · omega
theorem Gr.D_home {d v : Int} (h : G.home d v) : G.D d v = 0 := by
  have := G.D_le (t := 0) h; have := G.D_bounds d v; simp at *; omega
theorem Gr.D_step {d v w : Int} (h : G.E d v w) : G.D d v ≤ G.D (d + w) w + 1 := by
  by_cases c : G.D (d + w) w < NEV
  · have hr := G.D_reach c
    have := G.D_le (t := (G.D (d + w) w).toNat + 1) (show G.Reach ((G.D (d + w) w).toNat + 1) d v from ⟨w, h, hr⟩)
    have := G.D_bounds (d + w) w
    omega
  · have := G.D_bounds d v; omega
theorem Gr.D_attain {d v : Int} (h : G.D d v < NEV) : (G.home d v ∧ G.D d v = 0) ∨ ∃ w, G.E d v w ∧ G.D d v = G.D (d + w) w + 1 := by
  have hr := G.D_reach h
  have hb := G.D_bounds d v
  generalize e : (G.D d v).toNat = t at hr
  cases t with
  | zero => left; exact ⟨hr, by omega⟩
  | succ t =>
    right
    obtain ⟨w, hw, hr'⟩ := hr
    have h1 := G.D_le hr'
    have h2 := G.D_step hw
    exact ⟨w, hw, by omega⟩
theorem Gr.D_eq {d v : Int} {t : Nat} (h1 : G.Reach t d v) (h2 : ∀ u, G.Reach u d v → t ≤ u) (ht : (t : Int) ≤ NEV) : G.D d v = t := by
  rcases G.D_cases d v with ⟨u, hu, hm, e⟩ | ⟨hn, _⟩
  · have : u ≤ t := Nat.le_of_not_lt (fun c => hm t c h1)
    have := h2 u hu
    rw [e]; omega
  · exact absurd h1 (hn t)
/-! ### the least of what follows -/
/-- What is known while the speeds from 'lo' on are looked at, up to q. -/
structure Gr.Best (a z q best : Int) : Prop where
  ge : G.D a z ≤ best
  le : best ≤ NEV
  hm : G.home a z → best = 0
  sm : ∀ w, w < q → G.E a z w → ¬ (w = 0 ∧ z = 0) → best ≤ G.D (a + w) w + 1
variable {G}
theorem Gr.Best.start {a z best : Int} (h1 : G.home a z → best = 0) (h2 : ¬ G.home a z → best = NEV) : G.Best a z (G.lo a z) best := by
  have hb := G.D_bounds a z
  by_cases c : G.home a z
  · have := G.D_home c
    exact ⟨by rw [h1 c, this]; omega, by rw [h1 c]; unfold NEV; omega, h1, fun w hw he => absurd he.1 (by omega)⟩
  · exact ⟨by rw [h2 c]; exact hb.2, by rw [h2 c]; omega, h1, fun w hw he => absurd he.1 (by omega)⟩
theorem Gr.Best.skip {a z q best : Int} (h : G.Best a z q best) (hs : G.E a z q → q = 0 ∧ z = 0) : G.Best a z (q + 1) best :=
  ⟨h.ge, h.le, h.hm, fun w hw he hn => by
    by_cases c : w = q
    · subst c; exact absurd (hs he) hn
    · exact h.sm w (by omega) he hn⟩
theorem Gr.Best.take {a z q best x : Int} (h : G.Best a z q best) (he : G.E a z q) (hx : x = G.D (a + q) q + 1) : G.Best a z (q + 1) (if x < best then x else best) := by
  have hst := G.D_step he
  have hb := G.D_bounds (a + q) q
  have h1 := h.le
  have h0 := h.ge
  refine ⟨by split <;> omega, by split <;> omega, fun hh => ?_, fun w hw hew hn => ?_⟩
  · have := h.hm hh; split <;> omega
  · by_cases c : w = q
    · subst c; split <;> omega
    · have := h.sm w (by omega) hew hn; split <;> omega
theorem Gr.Best.done {a z q best : Int} (h : G.Best a z q best) (hq : G.hi z < q) : best = G.D a z := by
  have hb := G.D_bounds a z
  have h0 := h.ge
  have h1 := h.le
  by_cases c : G.D a z < NEV
  · rcases G.D_attain c with ⟨hh, e⟩ | ⟨w, hw, e⟩
    · rw [e]; exact h.hm hh
    · have := h.sm w (by have := hw.2.1; omega) hw (fun hz => by
        obtain ⟨rfl, rfl⟩ := hz
        rw [show a + 0 = a by omega] at e; omega)
      omega
  · omega
end
section
variable (G : Gr)
def Gr.C (d v t w : Int) : Prop := G.E d v w ∧ G.D (d + w) w = t - 1
theorem Gr.C_max {d v t : Int} (h : G.D d v = t) (h1 : 1 ≤ t) (h2 : t < NEV) : ∃ w, G.C d v t w ∧ ∀ u, G.C d v t u → u ≤ w := by
  have he : ∃ w, G.C d v t w := by
    rcases G.D_attain (d := d) (v := v) (by omega) with ⟨_, e⟩ | ⟨w, hw, e⟩
    · omega
    · exact ⟨w, hw, by omega⟩
  have hb : ∀ m : Nat, ∀ w, G.C d v t w → 60 - w ≤ m → ∃ w', G.C d v t w' ∧ ∀ u, G.C d v t u → u ≤ w' := by
    intro m
    induction m with
    | zero => intro w hw hm; exact ⟨w, hw, fun u hu => by have := hu.1.range; omega⟩
    | succ m ih =>
      intro w hw hm
      by_cases c : ∃ u, G.C d v t u ∧ w < u
      · obtain ⟨u, hu, hl⟩ := c; exact ih u hu (by omega)
      · exact ⟨w, hw, fun u hu => Int.not_lt.mp (fun hl => c ⟨u, hu, hl⟩)⟩
  obtain ⟨w, hw⟩ := he
  have := hw.1.range
  exact hb 60 w hw (by omega)
open Classical in
/-- The next speed of the fastest run. -/
noncomputable def Gr.pk (d v t : Int) : Int := if h : ∃ w, G.C d v t w ∧ ∀ u, G.C d v t u → u ≤ w then h.choose else 0
theorem Gr.pk_spec {d v t : Int} (h : G.D d v = t) (h1 : 1 ≤ t) (h2 : t < NEV) : G.C d v t (G.pk d v t) ∧ ∀ u, G.C d v t u → u ≤ G.pk d v t := by
  have he := G.C_max h h1 h2
  unfold Gr.pk; rw [dif_pos he]; exact he.choose_spec
noncomputable def Gr.path : Nat → Int → Int → List Int
  | 0, _, _ => []
  | t + 1, d, v => G.pk d v ((t + 1 : Nat) : Int) :: Gr.path t (d + G.pk d v ((t + 1 : Nat) : Int)) (G.pk d v ((t + 1 : Nat) : Int))
theorem Gr.path_len (t : Nat) : ∀ d v : Int, (G.path t d v).length = t := by
  induction t with
  | zero => intro d v; rfl
  | succ t ih => intro d v; simp [Gr.path, ih]
end
section
variable (G : Gr)
/-- A run that comes home. -/
def Gr.Run : List Int → Int → Int → Prop
  | [], d, v => G.home d v
  | w :: l, d, v => G.E d v w ∧ Gr.Run l (d + w) w
theorem Gr.Run.reach {G : Gr} (l : List Int) : ∀ d v : Int, G.Run l d v → G.Reach l.length d v := by
  induction l with
  | nil => intro d v h; exact h
  | cons w l ih => intro d v h; exact ⟨w, h.1, ih _ _ h.2⟩
theorem Gr.path_run (t : Nat) : ∀ d v : Int, G.D d v = (t : Int) → (t : Int) < NEV → G.Run (G.path t d v) d v := by
  induction t with
  | zero =>
    intro d v h hn
    have := G.D_reach (d := d) (v := v) (by omega)
    rw [show (G.D d v).toNat = 0 by omega] at this
    exact this
  | succ t ih =>
    intro d v h hn
    obtain ⟨hp, _⟩ := G.pk_spec (d := d) (v := v) (t := ((t + 1 : Nat) : Int)) h (by omega) hn
    exact ⟨hp.1, ih _ _ (by rw [hp.2]; omega) (by omega)⟩
/-- Is the first list greater where it first parts from the other? -/
def lat : List Int → List Int → Bool
  | a :: l, b :: m => if a = b then lat l m else decide (a > b)
  | _, _ => false
theorem Gr.later (t : Nat) : ∀ (l : List Int) (d v : Int), l.length = t → G.D d v = (t : Int) → (t : Int) < NEV → G.Run l d v → lat l (G.path t d v) = false := by
  induction t with
  | zero => intro l d v hl _ _ _; rw [List.eq_nil_of_length_eq_zero hl]; rfl
  | succ t ih =>
    intro l d v hl hD hn hr
    cases l with
    | nil => rfl
    | cons w l =>
      obtain ⟨hp, hm⟩ := G.pk_spec (d := d) (v := v) (t := ((t + 1 : Nat) : Int)) hD (by omega) hn
      have h1 := G.D_step hr.1
      have h2 := G.D_le (hr.2.reach)
      have hl' : l.length = t := by simpa using hl
      have hC : G.C d v ((t + 1 : Nat) : Int) w := ⟨hr.1, by omega⟩
      have hle := hm w hC
      simp only [Gr.path, lat]
      by_cases e : w = G.pk d v ((t + 1 : Nat) : Int)
      · rw [if_pos e, ← e]
        exact ih l (d + w) w hl' (by rw [hC.2]; omega) (by omega) hr.2
      · rw [if_neg e]; exact decide_eq_false (by omega)
theorem Gr.Run.sum {G : Gr} (l : List Int) : ∀ d v : Int, G.Run l d v → d ≤ G.n → d + l.sum ≤ G.n ∧ G.n - (d + l.sum) ≤ G.sh := by
  induction l with
  | nil => intro d v h hd; have := h.2; simp; omega
  | cons w l ih =>
    intro d v h hd
    have := ih (d + w) w h.2 h.1.range.2.2
    simp only [List.sum_cons]; omega
/-- Where every speed of one graph may follow in another, no way of it is shorter than the other's. -/
theorem Gr.D_mono {G' : Gr} (hn : G'.n = G.n) (hs : G'.sh = G.sh) (hE : ∀ d v w, G.E d v w → G'.E d v w) (d v : Int) : G'.D d v ≤ G.D d v := by
  have hr : ∀ t : Nat, ∀ d v, G.Reach t d v → G'.Reach t d v := by
    intro t
    induction t with
    | zero => intro d v h; exact ⟨h.1, by rw [hn, hs]; exact h.2⟩
    | succ t ih => intro d v h; obtain ⟨w, h1, h2⟩ := h; exact ⟨w, hE _ _ _ h1, ih _ _ h2⟩
  by_cases c : G.D d v < NEV
  · have := G'.D_le (hr _ _ _ (G.D_reach c))
    have := G.D_bounds d v
    omega
  · have := G'.D_bounds d v; omega
end
end Go.Proofs.Ytanjbdgmnecacaa.M
