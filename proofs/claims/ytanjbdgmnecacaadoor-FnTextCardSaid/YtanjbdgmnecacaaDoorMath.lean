/- Plain facts on whole numbers that the proofs of this seat use: closed sums of braking, wrap-round, and how a printed function's rounds are gone through. No condition. -/
import Derived.Test.YtanjbdgmnecacaaDoorMyWords
set_option linter.unusedVariables false
namespace Go.Proofs.YtanjbdgmnecacaaDoor.M
open Go.RowKit Go.Proofs.YtanjbdgmnecacaaDoorW.PrintWords

/-! ### rounds -/
theorem pos_ {α : Type} {c : Prop} [Decidable c] {A B : Nat → Option α} {r : α} (hc : c) (h : Ev A r) : Ev (fun k => if c then A k else B k) r := by
  simpa only [if_pos hc] using h
theorem neg_ {α : Type} {c : Prop} [Decidable c] {A B : Nat → Option α} {r : α} (hc : ¬ c) (h : Ev B r) : Ev (fun k => if c then A k else B k) r := by
  simpa only [if_neg hc] using h
theorem bindc {α β : Type} {o : Option α} {f : Nat → α → Option β} {a : α} {r : β} (h : o = some a) (k : Ev (fun n => f n a) r) : Ev (fun n => o.bind (f n)) r := by
  subst h; exact k
theorem now_ {α : Type} {a r : α} (h : a = r) : Ev (fun _ => some a) r := h ▸ Ev.now a
theorem cast_ {α : Type} {g : Nat → Option α} {a r : α} (h : a = r) (k : Ev g a) : Ev g r := h ▸ k
theorem w64 {a : Int} (h0 : -9223372036854775808 ≤ a) (h1 : a ≤ 9223372036854775807) : wrap64 a = a := by unfold wrap64; omega

/-- slowing down: how far -/
def slen (v u b : Int) : Int := if v ≤ u then 0 else (v - u) / b * v - b * ((v - u) / b) * ((v - u) / b + 1) / 2 + (if 0 < (v - u) % b then u else 0)
def stk (v u b : Int) : Int := if v ≤ u then 0 else (v - u + b - 1) / b

/-- the least brake, tried upward -/
def leastB (room v u : Int) : Int → Nat → Int
  | _, 0 => 0
  | b, d + 1 => if slen v u b ≤ room then b else leastB room v u (b + 1) d
/-- the greatest speed, tried upward -/
def mostV (room u b delay : Int) : Int → Nat → Int
  | v, 0 => v
  | v, d + 1 => if delay * (v + 1) + slen (v + 1) u b ≤ room then mostV room u b delay (v + 1) d else v
end Go.Proofs.YtanjbdgmnecacaaDoor.M
