/- What the printed functions at a place come to: the brake of a piece ('rate'), the least speed of the zones that a move touches ('ovA'), sums, 'right'. Condition: the profile is right where a lemma says so. -/
import Derived.Test.YtanjbdgmnecacaaDoorPTx0
import Derived.Test.YtanjbdgmnecacaaDoorPTx10
import Derived.Test.YtanjbdgmnecacaaDoorPrA
set_option linter.unusedVariables false
set_option linter.unusedSimpArgs false
namespace Go.Proofs.YtanjbdgmnecacaaDoor.Pure
open Go.RowKit Go.Proofs.YtanjbdgmnecacaaDoorW.PrintWords Go.Proofs.YtanjbdgmnecacaaDoorW.PrintLast Go.Proofs.YtanjbdgmnecacaaDoor.PT Go.Proofs.YtanjbdgmnecacaaDoor.M
def rateA (d : Int) : List S49 → Int → Int
  | [], _ => d
  | p :: l, x => if x < p.f0 then p.f1 else rateA d l (x - p.f0)
def PR.R (P : PR) (x : Int) : Int := rateA (P.ps.getD (P.ps.length - 1) z49).f1 P.ps x
def ovA (tr a b : Int) : List S56 → Int → Int
  | [], s => s
  | z :: l, s => ovA tr a b l (if z.f0 ≤ b ∧ a ≤ z.f1 + tr then min s z.f2 else s)
def PR.O (P : PR) (a b : Int) : Int := ovA P.tr a b P.zs 10000
def PR.ok (P : PR) (x : Int) : Prop := Good P ∧ 0 ≤ x ∧ x ≤ tot P.ps
theorem rateA_bounds (l : List S49) (d : Int) (hd : 10 ≤ d ∧ d ≤ 1000) (h : ∀ y ∈ l, 1 ≤ y.f0 ∧ y.f0 ≤ 1666666 ∧ 10 ≤ y.f1 ∧ y.f1 ≤ 1000) : ∀ x, 10 ≤ rateA d l x ∧ rateA d l x ≤ 1000 := by
  induction l with
  | nil => intro x; exact hd
  | cons y l ih =>
    intro x
    simp only [rateA]
    split
    · exact (h y List.mem_cons_self).2.2
    · exact ih (fun z hz => h z (List.mem_cons_of_mem _ hz)) _
theorem Good.last {P : PR} (h : Good P) : P.ps.getD (P.ps.length - 1) z49 ∈ P.ps := by
  have := h.n1
  rw [List.getD_eq_getElem?_getD, List.getElem?_eq_getElem (by omega)]; exact List.getElem_mem _
theorem Good.R {P : PR} (h : Good P) (x : Int) : 10 ≤ P.R x ∧ P.R x ≤ 1000 :=
  rateA_bounds P.ps _ (h.gp.hp _ h.last).2.2 h.gp.hp x
theorem ovA_bounds (tr a b : Int) (l : List S56) (h : ∀ z ∈ l, 1 ≤ z.f2) : ∀ s, 1 ≤ s → 1 ≤ ovA tr a b l s ∧ ovA tr a b l s ≤ s := by
  induction l with
  | nil => intro s hs; exact ⟨hs, Int.le_refl s⟩
  | cons z l ih =>
    intro s hs
    have hz := h z List.mem_cons_self
    simp only [ovA]
    have := ih (fun y hy => h y (List.mem_cons_of_mem _ hy)) (if z.f0 ≤ b ∧ a ≤ z.f1 + tr then min s z.f2 else s) (by split <;> omega)
    refine ⟨this.1, ?_⟩
    have h2 := this.2
    split at h2 <;> omega
theorem Good.O {P : PR} (h : Good P) (a b : Int) : 1 ≤ P.O a b ∧ P.O a b ≤ 10000 :=
  ovA_bounds P.tr a b P.zs (fun z hz => (h.hz z hz).2.2.2.1) 10000 (by omega)
theorem Good.tot {P : PR} (h : Good P) : 0 ≤ tot P.ps ∧ tot P.ps ≤ 100000000 := h.gp.tot
section
variable (P : PR)
variable {P}
/-! ### the brake at a place -/
end
end Go.Proofs.YtanjbdgmnecacaaDoor.Pure
