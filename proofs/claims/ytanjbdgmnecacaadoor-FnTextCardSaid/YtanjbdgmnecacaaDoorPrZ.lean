/- Texts as lists of bytes: a number and a form, forward (what stands there is read), cut short (it goes wrong at the text's end), and back (what was read stood there). Conditions: the places lie in the text; numbers of nine digits at most where a text is read forward. -/
import Derived.Lib.ItoaLen
import Derived.Test.YtanjbdgmnecacaaDoorPrL
set_option linter.unusedVariables false
set_option linter.unusedSimpArgs false
namespace Go.Proofs.YtanjbdgmnecacaaDoor.M
open Go.RowKit Go.Proofs.YtanjbdgmnecacaaDoorW.PrintWords
section
variable {t F : ByteArray}
/-- What stands from a place on. -/
def frm (t : ByteArray) (p : Int) : List UInt8 := t.data.toList.drop p.toNat
theorem tl_len (t : ByteArray) : t.data.toList.length = t.size := Array.length_toList
theorem frm_len {p : Int} (h0 : 0 ≤ p) (h1 : p ≤ t.size) : ((frm t p).length : Int) = t.size - p := by
  unfold frm; rw [List.length_drop, tl_len]; omega
theorem frm_cons {p : Int} (h0 : 0 ≤ p) {c : UInt8} {r : List UInt8} (h : frm t p = c :: r) : p < t.size ∧ bt t p = (c.toNat : Int) ∧ frm t (p + 1) = r := by
  have hl : p.toNat < t.data.toList.length := by
    by_cases k : p.toNat < t.data.toList.length
    · exact k
    · unfold frm at h; rw [List.drop_eq_nil_of_le (by omega)] at h; cases h
  unfold frm at h ⊢
  rw [List.drop_eq_getElem_cons hl] at h
  injection h with h1 h2
  have hl2 := hl
  rw [tl_len] at hl2
  refine ⟨by omega, ?_, by rw [← h2, show (p + 1).toNat = p.toNat + 1 by omega]⟩
  rw [← bt_at t p hl2, ← h1]; rfl
theorem frm_end {p : Int} (h0 : 0 ≤ p) (h1 : p ≤ t.size) (h : frm t p = []) : p = t.size := by
  have := frm_len h0 h1; rw [h] at this; simp at this; omega
theorem frm_drop {p : Int} (h0 : 0 ≤ p) {w r : List UInt8} (h : frm t p = w ++ r) : frm t (p + w.length) = r := by
  have e : frm t (p + w.length) = (frm t p).drop w.length := by
    unfold frm; rw [List.drop_drop, show (p + (w.length : Int)).toNat = p.toNat + w.length by omega]
  rw [e, h, List.drop_left]
theorem frm_some {p : Int} (h0 : 0 ≤ p) (h1 : p < t.size) : ∃ c r, frm t p = c :: r := by
  have := frm_len (t := t) h0 (by omega)
  cases h : frm t p with
  | nil => rw [h] at this; simp at this; omega
  | cons c r => exact ⟨c, r, rfl⟩
theorem frm_le {p : Int} (h0 : 0 ≤ p) (h1 : p ≤ t.size) {w r : List UInt8} (h : frm t p = w ++ r) : p + w.length ≤ t.size := by
  have := frm_len h0 h1; rw [h, List.length_append] at this; omega
def dgt (b : UInt8) : Prop := 48 ≤ b.toNat ∧ b.toNat ≤ 57
instance (b : UInt8) : Decidable (dgt b) := by unfold dgt; exact inferInstance
def val : Int → List UInt8 → Int
  | n, [] => n
  | n, b :: l => val (10 * n + ((b.toNat : Int) - 48)) l
theorem val_app (n : Int) (a b : List UInt8) : val n (a ++ b) = val (val n a) b := by
  induction a generalizing n with
  | nil => rfl
  | cons x a ih => simp only [List.cons_append, val]; exact ih _
theorem numA_go (ds : List UInt8) : ∀ (p n c : Int) (f : Nat) (r : List UInt8), 0 ≤ p → 0 ≤ c → 0 ≤ n → (∀ b ∈ ds, dgt b) → frm t p = ds ++ r → c + ds.length ≤ 9 →
    (ds = [] ∨ (c = 0 ∧ n = 0 ∧ (2 ≤ ds.length → ds.head? ≠ some 48)) ∨ (1 ≤ c ∧ 1 ≤ n)) → numA t (f + ds.length) p n c = numA t f (p + ds.length) (val n ds) (c + ds.length) := by
  induction ds with
  | nil => intro p n c f r _ _ _ _ _ _ _; simp [val]
  | cons b ds ih =>
    intro p n c f r h0 hc hn hd hf hl hk
    obtain ⟨h1, h2, h3⟩ := frm_cons h0 (by rw [hf]; rfl)
    have hb := hd b List.mem_cons_self
    unfold dgt at hb
    rw [List.length_cons] at hl
    have hk2 : (c = 0 ∧ n = 0 ∧ (2 ≤ (b :: ds).length → (b :: ds).head? ≠ some 48)) ∨ (1 ≤ c ∧ 1 ≤ n) := by
      rcases hk with z | z
      · cases z
      · exact z
    rw [show f + (b :: ds).length = (f + ds.length) + 1 by rw [List.length_cons]; omega]
    simp only [numA]
    rw [h2, if_pos ⟨⟨h1, by omega, by omega⟩, by omega, by rcases hk2 with z | z <;> omega⟩]
    rw [ih (p + 1) _ (c + 1) f r (by omega) (by omega) (by omega) (fun x hx => hd x (List.mem_cons_of_mem _ hx)) (by rw [h3]; rfl) (by omega) ?_]
    · rw [show p + 1 + (ds.length : Int) = p + ((b :: ds).length : Int) by rw [List.length_cons]; omega, show c + 1 + (ds.length : Int) = c + ((b :: ds).length : Int) by rw [List.length_cons]; omega]
      rfl
    · by_cases e : ds = []
      · exact .inl e
      · refine .inr (.inr ⟨by omega, ?_⟩)
        rcases hk2 with ⟨z1, z2, z3⟩ | z
        · have hne : b ≠ 48 := fun e2 => z3 (by cases ds with
            | nil => exact absurd rfl e
            | cons _ _ => simp) (by rw [e2]; rfl)
          have : b.toNat ≠ 48 := fun e2 => hne (UInt8.toNat_inj.mp (by rw [e2]; rfl))
          omega
        · omega
theorem numA_stop {p n c : Int} (h0 : 0 ≤ p) (h1 : p ≤ t.size) (h : frm t p = [] ∨ ∃ b r, frm t p = b :: r ∧ ¬ dgt b) (f : Nat) : numA t f p n c = (n, p, c) := by
  cases f with
  | zero => rfl
  | succ f =>
    simp only [numA]
    rw [if_neg]
    rintro ⟨⟨k1, k2, k3⟩, _⟩
    rcases h with h | ⟨b, r, h, hb⟩
    · have := frm_end h0 h1 h; omega
    · obtain ⟨_, h2, _⟩ := frm_cons h0 h
      rw [h2] at k2 k3
      exact hb ⟨by omega, by omega⟩
theorem head_app {a b : List UInt8} (h : a ≠ []) : (a ++ b).head? = a.head? := by
  cases a with
  | nil => exact absurd rfl h
  | cons _ _ => rfl
theorem dd_small {u : Nat} (h : u < 10) : Lib.decDigits u = [UInt8.ofNat (48 + u)] := by rw [Lib.decDigits, dif_pos h]
theorem dd_big {u : Nat} (h : ¬ u < 10) : Lib.decDigits u = Lib.decDigits (u / 10) ++ [UInt8.ofNat (48 + u % 10)] := by rw [Lib.decDigits.eq_def u, dif_neg h]
theorem of_toNat {k : Nat} (h : k < 256) : (UInt8.ofNat k).toNat = k := by simp [UInt8.toNat_ofNat']; omega
theorem dd_len (k : Nat) : ∀ u : Nat, u < 10 ^ (k + 1) → (Lib.decDigits u).length ≤ k + 1 := by
  induction k with
  | zero => intro u h; rw [dd_small (by simpa using h)]; simp
  | succ k ih =>
    intro u h
    by_cases c : u < 10
    · rw [dd_small c]; simp
    · rw [dd_big c, List.length_append]
      have := ih (u / 10) (by rw [Nat.pow_succ] at h; omega)
      simp; omega
theorem dd_all (u : Nat) : (∀ b ∈ Lib.decDigits u, dgt b) ∧ Lib.decDigits u ≠ [] ∧ val 0 (Lib.decDigits u) = u ∧ (1 ≤ u → (Lib.decDigits u).head? ≠ some 48) := by
  induction u using Nat.strongRecOn with
  | _ u ih =>
    by_cases c : u < 10
    · rw [dd_small c]
      refine ⟨fun b hb => ?_, by simp, ?_, fun h e => ?_⟩
      · rw [List.mem_singleton] at hb; subst hb; unfold dgt; rw [of_toNat (by omega)]; omega
      · simp only [val]; rw [of_toNat (by omega)]; omega
      · simp only [List.head?_cons, Option.some.injEq] at e
        have := congrArg UInt8.toNat e
        rw [of_toNat (by omega)] at this
        have e48 : (48 : UInt8).toNat = 48 := rfl
        omega
    · obtain ⟨h1, h2, h3, h4⟩ := ih (u / 10) (by omega)
      rw [dd_big c]
      refine ⟨fun b hb => ?_, by simp, ?_, fun _ => ?_⟩
      · rcases List.mem_append.mp hb with hb | hb
        · exact h1 b hb
        · rw [List.mem_singleton] at hb; subst hb; unfold dgt; rw [of_toNat (by omega)]; omega
      · rw [val_app, h3]; simp only [val]; rw [of_toNat (by omega)]; omega
      · rw [head_app h2]; exact h4 (by omega)
theorem dd_head {u : Nat} (h : 2 ≤ (Lib.decDigits u).length) : (Lib.decDigits u).head? ≠ some 48 := by
  refine (dd_all u).2.2.2 ?_
  by_cases c : u < 10
  · rw [dd_small c] at h; simp at h
  · omega
theorem num_at {p : Int} {u : Nat} {r : List UInt8} (h0 : 0 ≤ p) (h1 : p ≤ t.size) (hu : u < 1000000000) (h : frm t p = Lib.decDigits u ++ r) (hr : r = [] ∨ ∃ b r', r = b :: r' ∧ ¬ dgt b) :
    num t p = ((u : Int), p + (Lib.decDigits u).length, ((Lib.decDigits u).length : Int)) := by
  obtain ⟨a1, a2, a3, _⟩ := dd_all u
  have hl := dd_len 8 u hu
  unfold num
  rw [show 10 = (10 - (Lib.decDigits u).length) + (Lib.decDigits u).length by omega]
  rw [numA_go (t := t) (Lib.decDigits u) p 0 0 (10 - (Lib.decDigits u).length) r h0 (by omega) (by omega) a1 h (by omega) (.inr (.inl ⟨rfl, rfl, dd_head⟩))]
  have hf := frm_drop h0 h
  have hle := frm_le h0 h1 h
  rw [numA_stop (by omega) hle (by rw [hf]; exact hr), a3]
  simp
theorem num_cut {p : Int} {u : Nat} {w z : List UInt8} (h0 : 0 ≤ p) (h1 : p ≤ t.size) (hu : u < 1000000000) (h : frm t p = w) (hw : w ++ z = Lib.decDigits u) :
    (num t p).2.1 = t.size ∧ (num t p).2.2 = (w.length : Int) := by
  obtain ⟨a1, a2, a3, _⟩ := dd_all u
  have hl := dd_len 8 u hu
  have hwl : w.length ≤ 9 := by have := congrArg List.length hw; rw [List.length_append] at this; omega
  have hlen := frm_len h0 h1
  rw [h] at hlen
  unfold num
  rw [show 10 = (10 - w.length) + w.length by omega]
  rw [numA_go (t := t) w p 0 0 (10 - w.length) [] h0 (by omega) (by omega) (fun b hb => a1 b (by rw [← hw]; exact List.mem_append_left _ hb)) (by rw [h, List.append_nil]) (by omega)
    (.inr (.inl ⟨rfl, rfl, fun h2 => by
      have hh := dd_head (u := u) (by rw [← hw, List.length_append]; omega)
      rw [← hw, head_app (by intro e; rw [e] at h2; simp at h2)] at hh
      exact hh⟩))]
  have hf : frm t (p + w.length) = [] := frm_drop (r := []) h0 (by rw [h, List.append_nil])
  rw [numA_stop (by omega) (by omega) (.inl hf)]
  simp only
  omega
theorem numA_back (f : Nat) : ∀ (p n c : Int) (w : List UInt8), 0 ≤ p → p ≤ t.size → (w.length : Int) = c → (w = [] ∧ n = 0 ∨ w ≠ [] ∧ ∃ u : Nat, n = u ∧ w = Lib.decDigits u) →
    (numA t f p n c).2.2 ≠ 0 → ∃ u : Nat, (numA t f p n c).1 = u ∧ w ++ frm t p = Lib.decDigits u ++ frm t (numA t f p n c).2.1 := by
  induction f with
  | zero =>
    intro p n c w h0 h1 hc hw hne
    simp only [numA] at hne ⊢
    rcases hw with ⟨z1, _⟩ | ⟨_, u, z2, z3⟩
    · rw [z1] at hc; simp at hc; omega
    · exact ⟨u, z2, by rw [z3]⟩
  | succ f ih =>
    intro p n c w h0 h1 hc hw hne
    simp only [numA] at hne ⊢
    by_cases k : (p < t.size ∧ 48 ≤ bt t p ∧ bt t p ≤ 57) ∧ c < 9 ∧ ¬ (c = 1 ∧ n = 0)
    · rw [if_pos k] at hne ⊢
      obtain ⟨b, r, hb⟩ := frm_some h0 k.1.1
      obtain ⟨_, h2, h3⟩ := frm_cons h0 hb
      rw [h2] at k hne ⊢
      have step : ∃ u : Nat, 10 * n + ((b.toNat : Int) - 48) = u ∧ w ++ [b] = Lib.decDigits u := by
        rcases hw with ⟨z1, z2⟩ | ⟨z0, u, z2, z3⟩
        · refine ⟨b.toNat - 48, by omega, ?_⟩
          rw [z1, dd_small (by omega), List.nil_append]
          congr 1
          exact UInt8.toNat_inj.mp (by rw [of_toNat (by omega)]; omega)
        · have hu : 1 ≤ u := by
            by_cases e : u = 0
            · subst e; rw [dd_small (by omega)] at z3; rw [z3] at hc; simp at hc; omega
            · omega
          refine ⟨10 * u + (b.toNat - 48), by omega, ?_⟩
          rw [dd_big (by omega), show (10 * u + (b.toNat - 48)) / 10 = u by omega, show (10 * u + (b.toNat - 48)) % 10 = b.toNat - 48 by omega, z3]
          congr 2
          exact UInt8.toNat_inj.mp (by rw [of_toNat (by omega)]; omega)
      obtain ⟨u, e1, e2⟩ := step
      obtain ⟨v, g1, g2⟩ := ih (p + 1) _ (c + 1) (w ++ [b]) (by omega) (by omega) (by rw [List.length_append]; simp; omega) (.inr ⟨by simp, u, e1, e2⟩) hne
      refine ⟨v, g1, ?_⟩
      rw [← g2, h3, hb, List.append_assoc]; rfl
    · rw [if_neg k] at hne ⊢
      rcases hw with ⟨z1, _⟩ | ⟨_, u, z2, z3⟩
      · rw [z1] at hc; simp at hc; simp only at hne; omega
      · exact ⟨u, z2, by rw [z3]⟩
theorem num_back {p : Int} (h0 : 0 ≤ p) (h1 : p ≤ t.size) (h : (num t p).2.2 ≠ 0) : ∃ u : Nat, (num t p).1 = u ∧ frm t p = Lib.decDigits u ++ frm t (num t p).2.1 := by
  have := numA_back (t := t) 10 p 0 0 [] h0 h1 rfl (.inl ⟨rfl, rfl⟩) h
  simp only [List.nil_append] at this
  exact this
/-- A form, its numbers filled in. -/
def fil : List UInt8 → List Nat → List UInt8
  | [], _ => []
  | c :: F, us => if c = 35 then Lib.decDigits (us.headD 0) ++ fil F us.tail else c :: fil F us
def litF : List UInt8 → Bool
  | [] => false
  | d :: _ => d != 35 && !(decide (dgt d))
def okF : List UInt8 → Bool
  | [] => true
  | c :: F => (c != 35 || litF F) && okF F
theorem okF_num {F' : List UInt8} (h : okF (35 :: F') = true) : okF F' = true ∧ ∃ d F3, F' = d :: F3 ∧ d ≠ 35 ∧ ¬ dgt d := by
  rw [okF, Bool.and_eq_true] at h
  refine ⟨h.2, ?_⟩
  have h1 := h.1
  rw [Bool.or_eq_true] at h1
  rcases h1 with z | z
  · exact absurd z (by decide)
  · cases F' with
    | nil => cases z
    | cons d F3 =>
      rw [litF, Bool.and_eq_true, bne_iff_ne, Bool.not_eq_true', decide_eq_false_iff_not] at z
      exact ⟨d, F3, rfl, z.1, z.2⟩
theorem okF_lit {c : UInt8} {F' : List UInt8} (h : okF (c :: F') = true) : okF F' = true := by
  rw [okF, Bool.and_eq_true] at h; exact h.2
theorem c35 {c : UInt8} : ((c.toNat : Int) = 35) ↔ c = 35 := by
  constructor
  · intro h; exact UInt8.toNat_inj.mp (by show c.toNat = 35; omega)
  · intro h; subst h; rfl
theorem fil_head {d : UInt8} {F3 : List UInt8} {us : List Nat} (h : d ≠ 35) : fil (d :: F3) us = d :: fil F3 us := by rw [fil, if_neg h]
theorem mtc_go (F' : List UInt8) : ∀ (i p : Int) (ns : List Int) (us : List Nat) (r : List UInt8), 0 ≤ i → 0 ≤ p → p ≤ t.size → frm F i = F' → okF F' = true → us.length = F'.count 35 → (∀ u ∈ us, u < 1000000000) → frm t p = fil F' us ++ r →
    mtc t F F'.length i p ns = (ns ++ us.map Int.ofNat, p + (fil F' us).length, true) := by
  induction F' with
  | nil =>
    intro i p ns us r hi h0 h1 hF hok hus hub hp
    have : us = [] := List.eq_nil_of_length_eq_zero (by simpa using hus)
    subst this; simp [mtc, fil]
  | cons c F' ih =>
    intro i p ns us r hi h0 h1 hF hok hus hub hp
    obtain ⟨_, hb, hn⟩ := frm_cons hi hF
    rw [List.length_cons]
    simp only [mtc]
    rw [hb]
    by_cases e : c = 35
    · subst e
      rw [if_pos (c35.mpr rfl)]
      obtain ⟨hok2, d, F3, e3, d1, d2⟩ := okF_num hok
      cases us with
      | nil => simp at hus
      | cons u us =>
        have hfil : fil (35 :: F') (u :: us) = Lib.decDigits u ++ fil F' us := by rw [fil, if_pos rfl]; rfl
        rw [hfil] at hp ⊢
        rw [List.append_assoc] at hp
        have hnum := num_at h0 h1 (hub u List.mem_cons_self) hp (.inr ⟨d, fil F3 us ++ r, by rw [e3, fil_head d1]; rfl, d2⟩)
        have hne := (dd_all u).2.1
        have hlen : (Lib.decDigits u).length ≠ 0 := fun z => hne (List.eq_nil_of_length_eq_zero z)
        rw [hnum, if_neg (by simp only; omega)]
        simp only
        rw [ih (i + 1) (p + (Lib.decDigits u).length) (ns ++ [(u : Int)]) us r (by omega) (by omega) (frm_le h0 h1 hp) hn hok2 (by simpa using hus) (fun x hx => hub x (List.mem_cons_of_mem _ hx)) (frm_drop h0 hp)]
        rw [List.length_append, List.map_cons, List.append_assoc]
        congr 2
        omega
    · rw [if_neg (fun z => e (c35.mp z))]
      rw [fil_head e] at hp ⊢
      obtain ⟨k1, k2, k3⟩ := frm_cons h0 (by rw [hp]; rfl)
      rw [if_pos ⟨k1, k2⟩, ih (i + 1) (p + 1) ns us r (by omega) (by omega) (by omega) hn (okF_lit hok) (by rw [hus, List.count_cons_of_ne e]) hub k3, List.length_cons]
      congr 2
      omega
theorem mtc_cut (F' : List UInt8) : ∀ (i p : Int) (ns : List Int) (us : List Nat) (z : List UInt8), 0 ≤ i → 0 ≤ p → p ≤ t.size → frm F i = F' → okF F' = true → us.length = F'.count 35 → (∀ u ∈ us, u < 1000000000) → frm t p ++ z = fil F' us → z ≠ [] →
    ∃ ns', mtc t F F'.length i p ns = (ns', (t.size : Int), false) := by
  induction F' with
  | nil =>
    intro i p ns us z hi h0 h1 hF hok hus hub hp hz
    rw [fil] at hp; exact absurd (List.append_eq_nil_iff.mp hp).2 hz
  | cons c F' ih =>
    intro i p ns us z hi h0 h1 hF hok hus hub hp hz
    obtain ⟨_, hb, hn⟩ := frm_cons hi hF
    rw [List.length_cons]
    simp only [mtc]
    rw [hb]
    by_cases e : c = 35
    · subst e
      rw [if_pos (c35.mpr rfl)]
      obtain ⟨hok2, d, F3, e3, d1, d2⟩ := okF_num hok
      cases us with
      | nil => simp at hus
      | cons u us =>
        have hfil : fil (35 :: F') (u :: us) = Lib.decDigits u ++ fil F' us := by rw [fil, if_pos rfl]; rfl
        rw [hfil] at hp
        have hu := hub u List.mem_cons_self
        rcases List.append_eq_append_iff.mp hp with ⟨a, ha, hb2⟩ | ⟨a, ha, hb2⟩
        · -- the number is cut
          obtain ⟨q1, q2⟩ := num_cut h0 h1 hu rfl ha.symm
          by_cases k : (num t p).2.2 = 0
          · rw [if_pos k]; exact ⟨ns, by rw [q1]⟩
          · rw [if_neg k, q1]
            subst e3
            obtain ⟨_, hb3, _⟩ := frm_cons (by omega) hn
            rw [List.length_cons]
            simp only [mtc]
            rw [hb3, if_neg (fun z => d1 (c35.mp z)), if_neg (by omega)]
            exact ⟨_, rfl⟩
        · -- the number stands there
          have hr : a = [] ∨ ∃ b r', a = b :: r' ∧ ¬ dgt b := by
            cases a with
            | nil => exact .inl rfl
            | cons b r' =>
              rw [e3, fil_head d1] at hb2
              injection hb2 with hb4 _
              exact .inr ⟨b, r', rfl, by rw [← hb4]; exact d2⟩
          have hnum := num_at h0 h1 hu ha hr
          have hne := (dd_all u).2.1
          have hlen : (Lib.decDigits u).length ≠ 0 := fun z => hne (List.eq_nil_of_length_eq_zero z)
          rw [hnum, if_neg (by simp only; omega)]
          exact ih (i + 1) (p + (Lib.decDigits u).length) _ us z (by omega) (by omega) (frm_le h0 h1 ha) hn hok2 (by simpa using hus) (fun x hx => hub x (List.mem_cons_of_mem _ hx)) (by rw [frm_drop h0 ha, ← hb2]) hz
    · rw [if_neg (fun z => e (c35.mp z))]
      rw [fil_head e] at hp
      cases hw : frm t p with
      | nil =>
        have := frm_end h0 h1 hw
        rw [if_neg (by omega), this]; exact ⟨ns, rfl⟩
      | cons b w =>
        rw [hw] at hp
        injection hp with hp1 hp2
        obtain ⟨k1, k2, k3⟩ := frm_cons h0 hw
        rw [if_pos ⟨k1, by rw [k2, hp1]⟩]
        exact ih (i + 1) (p + 1) ns us z (by omega) (by omega) (by omega) hn (okF_lit hok) (by rw [hus, List.count_cons_of_ne e]) hub (by rw [k3]; exact hp2) hz
theorem mtc_back (F' : List UInt8) : ∀ (i p : Int) (ns : List Int), 0 ≤ i → 0 ≤ p → p ≤ t.size → frm F i = F' → (mtc t F F'.length i p ns).2.2 = true →
    ∃ us : List Nat, (mtc t F F'.length i p ns).1 = ns ++ us.map Int.ofNat ∧ us.length = F'.count 35 ∧ frm t p = fil F' us ++ frm t (mtc t F F'.length i p ns).2.1 := by
  induction F' with
  | nil => intro i p ns hi h0 h1 hF hm; exact ⟨[], by simp [mtc], rfl, by simp [mtc, fil]⟩
  | cons c F' ih =>
    intro i p ns hi h0 h1 hF hm
    obtain ⟨_, hb, hn⟩ := frm_cons hi hF
    rw [List.length_cons] at hm ⊢
    simp only [mtc] at hm ⊢
    rw [hb] at hm ⊢
    by_cases e : c = 35
    · subst e
      rw [if_pos (c35.mpr rfl)] at hm ⊢
      by_cases k : (num t p).2.2 = 0
      · rw [if_pos k] at hm; cases hm
      · rw [if_neg k] at hm ⊢
        obtain ⟨u, g1, g2⟩ := num_back h0 h1 k
        have hs := num_spec h1
        obtain ⟨us, f1, f2, f3⟩ := ih (i + 1) (num t p).2.1 _ (by omega) (by omega) hs.2.1 hn hm
        refine ⟨u :: us, by rw [f1, g1]; simp, by simpa using f2, ?_⟩
        rw [fil, if_pos rfl]
        show frm t p = (Lib.decDigits u ++ fil F' us) ++ _
        rw [List.append_assoc, ← f3]; exact g2
    · rw [if_neg (fun z => e (c35.mp z))] at hm ⊢
      by_cases k : p < t.size ∧ bt t p = (c.toNat : Int)
      · rw [if_pos k] at hm ⊢
        obtain ⟨b, r, hbr⟩ := frm_some h0 k.1
        obtain ⟨_, k2, k3⟩ := frm_cons h0 hbr
        obtain ⟨us, f1, f2, f3⟩ := ih (i + 1) (p + 1) ns (by omega) (by omega) (by omega) hn hm
        refine ⟨us, f1, by rw [f2, List.count_cons_of_ne e], ?_⟩
        rw [fil_head e, List.cons_append, ← f3, k3, hbr]
        congr 1
        exact UInt8.toNat_inj.mp (by have := k.2; omega)
      · rw [if_neg k] at hm; cases hm
end
end Go.Proofs.YtanjbdgmnecacaaDoor.M
