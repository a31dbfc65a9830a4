/- Plain facts, with no program in sight: a train that brakes by a rate R and keeps to limits O, an end and a delay; greatest speeds; what is tighter is no safer. No condition. -/
import Derived.Test.YtanjbdgmnecacaaDoorMath
set_option linter.unusedVariables false
set_option linter.unusedSimpArgs false
namespace Go.Proofs.YtanjbdgmnecacaaDoor.M
open Go.RowKit Go.Proofs.YtanjbdgmnecacaaDoorW.PrintWords
/-! ### lists -/
theorem drop_cons_getD {α : Type} (l : List α) (i : Int) (d : α) (h0 : 0 ≤ i) (h1 : i < l.length) : l.drop i.toNat = l.getD i.toNat d :: l.drop (i + 1).toNat := by
  have h2 : i.toNat < l.length := by omega
  rw [List.drop_eq_getElem_cons h2, List.getD_eq_getElem?_getD, List.getElem?_eq_getElem h2, show (i + 1).toNat = i.toNat + 1 by omega]; rfl
theorem drop_len {α : Type} (l : List α) (i : Int) (h : i = l.length) : l.drop i.toNat = [] := by
  rw [h, Int.toNat_natCast, List.drop_length]
theorem getD_mem' {α : Type} (l : List α) (i : Int) (d : α) (h0 : 0 ≤ i) (h1 : i < l.length) : l.getD i.toNat d ∈ l := by
  rw [List.getD_eq_getElem?_getD, List.getElem?_eq_getElem (by omega)]; exact List.getElem_mem _
/-! ### a train -/
def less (v b : Int) : Int := if v < b then 0 else v - b
section
variable (R : Int → Int) (O : Int → Int → Int) (en de : Int)
/-- It may move by v from x. -/
def may (x v : Int) : Bool := if v = 0 then decide (x ≤ en) else decide (x + v ≤ en) && decide (v ≤ O x (x + v))
def sfA : Nat → Int → Int → Int → Bool
  | 0, _, _, _ => false
  | f + 1, x, v, n => may O en x v && (decide (v = 0) || sfA f (x + v) (if de ≤ n then less v (R x) else v) (n + 1))
def sf (x v n : Int) : Bool := sfA R O en de ((en - x).toNat + 2) x v n
end
section
variable {R : Int → Int} {O : Int → Int → Int} {en de : Int}
end
/-! ### greatest speeds -/
section
variable (S : Int → Bool)
/-- the greatest v such that all from the start on are S, tried upward (v is the last one that is) -/
def mostA : Int → Nat → Int
  | v, 0 => v
  | v, d + 1 => if S (v + 1) = true then mostA (v + 1) d else v
variable {S}
end
/-! ### watching -/
section
variable (R : Int → Int) (O : Int → Int → Int) (en de : Int)
def wok (x w : Int) : Bool := decide (0 ≤ w) && decide (w ≤ 10000) && sf R O en de x w 0
/-- what is let do from here on: the speeds, how often the brake comes, where it ends -/
def wrun : List Int → Bool → Int → Int → Int → Int → List Int × Int × Int
  | [], _, _, _, _, x => ([], 0, x)
  | w :: ws, first, v, was, n, x =>
    if wok R O en de x w = true then (w :: (wrun ws false w x 0 (x + w)).1, (wrun ws false w x 0 (x + w)).2.1, (wrun ws false w x 0 (x + w)).2.2)
    else if first = true then (v :: (wrun ws false v x n (x + v)).1, 1 + (wrun ws false v x n (x + v)).2.1, (wrun ws false v x n (x + v)).2.2)
    else ((if de ≤ n then less v (R was) else v) :: (wrun ws false (if de ≤ n then less v (R was) else v) x (n + 1) (x + (if de ≤ n then less v (R was) else v))).1,
      1 + (wrun ws false (if de ≤ n then less v (R was) else v) x (n + 1) (x + (if de ≤ n then less v (R was) else v))).2.1,
      (wrun ws false (if de ≤ n then less v (R was) else v) x (n + 1) (x + (if de ≤ n then less v (R was) else v))).2.2)
/-- moves, one after the other, each allowed -/
def moves : List Int → Int → Int → Prop
  | [], x, y => x = y
  | v :: l, x, y => 0 ≤ v ∧ v ≤ 10000 ∧ may O en x v = true ∧ moves l (x + v) y
variable {R O en de}
end
end Go.Proofs.YtanjbdgmnecacaaDoor.M
