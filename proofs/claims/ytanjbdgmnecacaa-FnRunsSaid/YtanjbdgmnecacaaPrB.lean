/- What the printed functions at a place come to: the brake of a piece ('rate'), the least speed of the zones that a move touches ('ovA'), sums, 'right'. Condition: the profile is right where a lemma says so. -/
import Derived.Test.YtanjbdgmnecacaaPRx0
import Derived.Test.YtanjbdgmnecacaaPRx1
import Derived.Test.YtanjbdgmnecacaaPRx5
import Derived.Test.YtanjbdgmnecacaaPRx8
import Derived.Test.YtanjbdgmnecacaaPRx13
import Derived.Test.YtanjbdgmnecacaaPRx15
import Derived.Test.YtanjbdgmnecacaaPrA
set_option linter.unusedVariables false
set_option linter.unusedSimpArgs false
namespace Go.Proofs.Ytanjbdgmnecacaa.Pure
open Go.RowKit Go.Proofs.YtanjbdgmnecacaaW.PrintWords Go.Proofs.YtanjbdgmnecacaaW.PrintLast Go.Proofs.Ytanjbdgmnecacaa.PR Go.Proofs.Ytanjbdgmnecacaa.M
def rateA (d : Int) : List S39 → Int → Int
  | [], _ => d
  | p :: l, x => if x < p.f0 then p.f1 else rateA d l (x - p.f0)
def PR.R (P : PR) (x : Int) : Int := rateA (P.ps.getD (P.ps.length - 1) z39).f1 P.ps x
def ovA (tr a b : Int) : List S45 → Int → Int
  | [], s => s
  | z :: l, s => ovA tr a b l (if z.f0 ≤ b ∧ a ≤ z.f1 + tr then min s z.f2 else s)
def PR.O (P : PR) (a b : Int) : Int := ovA P.tr a b P.zs 10000
def PR.ok (P : PR) (x : Int) : Prop := Good P ∧ 0 ≤ x ∧ x ≤ tot P.ps
theorem rateA_bounds (l : List S39) (d : Int) (hd : 10 ≤ d ∧ d ≤ 1000) (h : ∀ y ∈ l, 1 ≤ y.f0 ∧ y.f0 ≤ 1666666 ∧ 10 ≤ y.f1 ∧ y.f1 ≤ 1000) : ∀ x, 10 ≤ rateA d l x ∧ rateA d l x ≤ 1000 := by
  induction l with
  | nil => intro x; exact hd
  | cons y l ih =>
    intro x
    simp only [rateA]
    split
    · exact (h y List.mem_cons_self).2.2
    · exact ih (fun z hz => h z (List.mem_cons_of_mem _ hz)) _
theorem Good.last {P : PR} (h : Good P) : P.ps.getD (P.ps.length - 1) z39 ∈ P.ps := by
  have := h.n1
  rw [List.getD_eq_getElem?_getD, List.getElem?_eq_getElem (by omega)]; exact List.getElem_mem _
theorem Good.R {P : PR} (h : Good P) (x : Int) : 10 ≤ P.R x ∧ P.R x ≤ 1000 :=
  rateA_bounds P.ps _ (h.gp.hp _ h.last).2.2 h.gp.hp x
theorem ovA_bounds (tr a b : Int) (l : List S45) (h : ∀ z ∈ l, 1 ≤ z.f2) : ∀ s, 1 ≤ s → 1 ≤ ovA tr a b l s ∧ ovA tr a b l s ≤ s := by
  induction l with
  | nil => intro s hs; exact ⟨hs, Int.le_refl s⟩
  | cons z l ih =>
    intro s hs
    have hz := h z List.mem_cons_self
    simp only [ovA]
    have := ih (fun y hy => h y (List.mem_cons_of_mem _ hy)) (if z.f0 ≤ b ∧ a ≤ z.f1 + tr then min s z.f2 else s) (by split <;> omega)
    refine ⟨this.1, ?_⟩
    have h2 := this.2
    split at h2 <;> omega
theorem Good.O {P : PR} (h : Good P) (a b : Int) : 1 ≤ P.O a b ∧ P.O a b ≤ 10000 :=
  ovA_bounds P.tr a b P.zs (fun z hz => (h.hz z hz).2.2.2.1) 10000 (by omega)
theorem Good.tot {P : PR} (h : Good P) : 0 ≤ tot P.ps ∧ tot P.ps ≤ 100000000 := h.gp.tot
section
variable (P : PR)
theorem iPOk : impl_ProfileOk.f P.ps P.zs P.tr P.en P.de = some (pokV P.ps P.zs P.tr P.en P.de) := rfl
variable {P}
/-! ### the brake at a place -/
theorem ev_brakeAt_l0 (hg : Good P) (d : Nat) : ∀ i x : Int, 0 ≤ i → i + d = P.ps.length → 0 ≤ x → x ≤ 1000000000 →
    Ev (fun k => impl_brakeAt.l0 k x P.ps P.ps.length i P.ps P.zs P.tr P.en P.de) (rateA (P.ps.getD (P.ps.length - 1) z39).f1 (P.ps.drop i.toNat) x) := by
  have hn := hg.gp.n60
  have hn1 := hg.n1
  induction d with
  | zero =>
    intro i x h0 h1 h2 h3
    refine Ev.step (fun k => by rw [impl_brakeAt.l0]) (neg_ (by omega) ?_)
    rw [w64 (a := (P.ps.length : Int) - 1) (by omega) (by omega)]
    refine pos_ (by omega) (pos_ (by omega) (now_ ?_))
    rw [drop_len P.ps i (by omega)]
    simp only [rateA]
    show (P.ps.getD ((P.ps.length : Int) - 1).toNat z39).f1 = _
    rw [show ((P.ps.length : Int) - 1).toNat = P.ps.length - 1 by omega]
  | succ d ih =>
    intro i x h0 h1 h2 h3
    have hm := hg.gp.hp _ (getD_mem' P.ps i z39 h0 (by omega))
    rw [drop_cons_getD P.ps i z39 h0 (by omega)]
    simp only [rateA]
    refine Ev.step (fun k => by rw [impl_brakeAt.l0]) (pos_ (by omega) (pos_ h0 (pos_ (by omega) ?_)))
    have e : rd_T39 P.ps i = P.ps.getD i.toNat z39 := rfl
    rw [e]
    generalize P.ps.getD i.toNat z39 = y at hm ⊢
    by_cases c : x < y.f0
    · rw [if_pos c]; exact pos_ c (now_ rfl)
    · rw [if_neg c]; refine neg_ c ?_
      rw [w64 (a := i + 1) (by omega) (by omega), w64 (a := x - y.f0) (by omega) (by omega)]
      exact ih (i + 1) (x - y.f0) (by omega) (by omega) (by omega) (by omega)
theorem ev_brakeAt (hg : Good P) {x : Int} (h0 : 0 ≤ x) (h1 : x ≤ 1000000000) : Ev (fun k => impl_brakeAt.f k P.ps P.zs P.tr P.en P.de x) (P.R x) := by
  simp only [impl_brakeAt.f]
  exact ev_brakeAt_l0 hg P.ps.length 0 x (by omega) (by omega) h0 h1
theorem ev_l2rate_l0 (hg : Good P) (d : Nat) : ∀ i x at_ : Int, 0 ≤ i → i + d = P.ps.length → 0 ≤ at_ → at_ + tot (P.ps.drop i.toNat) ≤ 100000000 → 0 ≤ x → x ≤ 1000000000 →
    Ev (fun k => spec_l2rate.l0 k x at_ P.ps P.ps.length i P.ps P.zs P.tr P.en P.de) (rateA (P.ps.getD (P.ps.length - 1) z39).f1 (P.ps.drop i.toNat) (x - at_)) := by
  have hn := hg.gp.n60
  have hn1 := hg.n1
  induction d with
  | zero =>
    intro i x at_ h0 h1 h2 h3 h4 h5
    refine Ev.step (fun k => by rw [spec_l2rate.l0]) (neg_ (by omega) ?_)
    rw [w64 (a := (P.ps.length : Int) - 1) (by omega) (by omega)]
    refine pos_ (by omega) (pos_ (by omega) (now_ ?_))
    rw [drop_len P.ps i (by omega)]
    simp only [rateA]
    show (P.ps.getD ((P.ps.length : Int) - 1).toNat z39).f1 = _
    rw [show ((P.ps.length : Int) - 1).toNat = P.ps.length - 1 by omega]
  | succ d ih =>
    intro i x at_ h0 h1 h2 h3 h4 h5
    have hm := hg.gp.hp _ (getD_mem' P.ps i z39 h0 (by omega))
    have hb := tot_bounds (P.ps.drop (i + 1).toNat) (fun y hy => hg.gp.hp y (List.mem_of_mem_drop hy))
    rw [drop_cons_getD P.ps i z39 h0 (by omega)] at h3 ⊢
    simp only [rateA, tot] at h3 ⊢
    refine Ev.step (fun k => by rw [spec_l2rate.l0]) (pos_ (by omega) (pos_ h0 (pos_ (by omega) ?_)))
    have e : rd_T39 P.ps i = P.ps.getD i.toNat z39 := rfl
    rw [e]
    generalize P.ps.getD i.toNat z39 = y at hm h3 ⊢
    rw [w64 (a := i + 1) (by omega) (by omega), w64 (a := at_ + y.f0) (by omega) (by omega)]
    by_cases c : x < at_ + y.f0
    · rw [if_pos (by omega)]; exact pos_ c (now_ rfl)
    · rw [if_neg (by omega)]; refine neg_ c ?_
      refine cast_ ?_ (ih (i + 1) x (at_ + y.f0) (by omega) (by omega) (by omega) (by omega) h4 h5)
      rw [show x - (at_ + y.f0) = x - at_ - y.f0 by omega]
theorem ev_l2rate (hg : Good P) {x : Int} (h0 : 0 ≤ x) (h1 : x ≤ 1000000000) : Ev (fun k => spec_l2rate.f k P.ps P.zs P.tr P.en P.de x) (P.R x) := by
  simp only [spec_l2rate.f]
  refine cast_ ?_ (ev_l2rate_l0 hg P.ps.length 0 x 0 (by omega) (by omega) (by omega) (by have := hg.tot; simp; omega) h0 h1)
  simp [PR.R]
/-! ### limits -/
theorem mn_min (a b : Int) : mn a b = min a b := by unfold mn; split <;> omega
theorem ev_touched_l0 (hg : Good P) (a b : Int) (d : Nat) : ∀ i s : Int, 0 ≤ i → i + d = P.zs.length →
    Ev (fun k => impl_touched.l0 k a b s P.zs P.zs.length i P.ps P.zs P.tr P.en P.de) (ovA P.tr a b (P.zs.drop i.toNat) s) := by
  have hn := hg.z60
  have ht := hg.tot
  have h5 := hg.tr0
  have h6 := hg.tr1
  induction d with
  | zero =>
    intro i s h0 h1
    refine Ev.step (fun k => by rw [impl_touched.l0]) (neg_ (by omega) (now_ ?_))
    rw [drop_len P.zs i (by omega)]; rfl
  | succ d ih =>
    intro i s h0 h1
    have hm := hg.hz _ (getD_mem' P.zs i z45 h0 (by omega))
    rw [drop_cons_getD P.zs i z45 h0 (by omega)]
    simp only [ovA]
    refine Ev.step (fun k => by rw [impl_touched.l0]) (pos_ (by omega) (pos_ h0 (pos_ (by omega) ?_)))
    have e : rd_T45 P.zs i = P.zs.getD i.toNat z45 := rfl
    rw [e]
    generalize P.zs.getD i.toNat z45 = z at hm ⊢
    rw [w64 (a := i + 1) (by omega) (by omega), w64 (a := z.f1 + P.tr) (by omega) (by omega), mn_min]
    by_cases c : z.f0 ≤ b
    · refine pos_ c ?_
      by_cases c2 : a ≤ z.f1 + P.tr
      · rw [if_pos ⟨c, c2⟩]; exact pos_ c2 (ih (i + 1) _ (by omega) (by omega))
      · rw [if_neg (fun x => c2 x.2)]; exact neg_ c2 (ih (i + 1) _ (by omega) (by omega))
    · rw [if_neg (fun x => c x.1)]; exact neg_ c (ih (i + 1) _ (by omega) (by omega))
theorem ev_touched (hg : Good P) (a b : Int) : Ev (fun k => impl_touched.f k P.ps P.zs P.tr P.en P.de a b) (P.O a b) := by
  simp only [impl_touched.f]
  exact ev_touched_l0 hg a b P.zs.length 0 10000 (by omega) (by omega)
theorem ev_l2over_l0 (hg : Good P) (a b : Int) (d : Nat) : ∀ i s : Int, 0 ≤ i → i + d = P.zs.length →
    Ev (fun k => spec_l2over.l0 k a b s P.zs P.zs.length i P.ps P.zs P.tr P.en P.de) (ovA P.tr a b (P.zs.drop i.toNat) s) := by
  have hn := hg.z60
  have ht := hg.tot
  have h5 := hg.tr0
  have h6 := hg.tr1
  induction d with
  | zero =>
    intro i s h0 h1
    refine Ev.step (fun k => by rw [spec_l2over.l0]) (neg_ (by omega) (now_ ?_))
    rw [drop_len P.zs i (by omega)]; rfl
  | succ d ih =>
    intro i s h0 h1
    have hm := hg.hz _ (getD_mem' P.zs i z45 h0 (by omega))
    rw [drop_cons_getD P.zs i z45 h0 (by omega)]
    simp only [ovA]
    refine Ev.step (fun k => by rw [spec_l2over.l0]) (pos_ (by omega) (pos_ h0 (pos_ (by omega) ?_)))
    have e : rd_T45 P.zs i = P.zs.getD i.toNat z45 := rfl
    rw [e]
    generalize P.zs.getD i.toNat z45 = z at hm ⊢
    rw [w64 (a := i + 1) (by omega) (by omega), w64 (a := z.f1 + P.tr) (by omega) (by omega)]
    by_cases c : z.f0 ≤ b
    · refine pos_ c ?_
      by_cases c2 : a ≤ z.f1 + P.tr
      · rw [if_pos ⟨c, c2⟩]
        refine pos_ c2 ?_
        by_cases c3 : z.f2 < s
        · rw [show min s z.f2 = z.f2 by omega]; exact pos_ c3 (ih (i + 1) _ (by omega) (by omega))
        · rw [show min s z.f2 = s by omega]; exact neg_ c3 (ih (i + 1) _ (by omega) (by omega))
      · rw [if_neg (fun x => c2 x.2)]; exact neg_ c2 (ih (i + 1) _ (by omega) (by omega))
    · rw [if_neg (fun x => c x.1)]; exact neg_ c (ih (i + 1) _ (by omega) (by omega))
theorem ev_l2over (hg : Good P) (a b : Int) : Ev (fun k => spec_l2over.f k P.ps P.zs P.tr P.en P.de a b) (P.O a b) := by
  simp only [spec_l2over.f]
  exact ev_l2over_l0 hg a b P.zs.length 0 10000 (by omega) (by omega)
end
end Go.Proofs.Ytanjbdgmnecacaa.Pure
