/- Small words of the walks of this seat: two gates (a look at an operation ahead of a step), 'max' and 'min' of whole numbers as the model has them. No condition. -/
import Derived.Test.YtgakkndbcilclaaWWords
import Derived.Test.YtgakkndbcilclaaWLast
namespace Go.Proofs.YtgakkndbcilclaaW.PrintMore
open Go.RowKit Go.Proofs.YtgakkndbcilclaaW.PrintWords
theorem max2_int (k k' : IntKind) (x y : Int) : Builtin.max2 (.int k x) (.int k' y) = pure (.int k (if x < y then y else x)) := by
  unfold Builtin.max2; simp only [gt_iff_lt]
theorem min2_int (k k' : IntKind) (x y : Int) : Builtin.min2 (.int k x) (.int k' y) = pure (.int k (if y < x then y else x)) := by
  unfold Builtin.min2; rfl
theorem max_two (ats : Array TypeId) (ty : TypeId) (a b : Value) : Builtin.max_ ats ty #[a, b] = (Builtin.max2 a b >>= fun s => pure s) := by
  unfold Builtin.max_; rfl
theorem min_two (ats : Array TypeId) (ty : TypeId) (a b : Value) : Builtin.min_ ats ty #[a, b] = (Builtin.min2 a b >>= fun s => pure s) := by
  unfold Builtin.min_; rfl
end Go.Proofs.YtgakkndbcilclaaW.PrintMore
namespace Go.Proofs.YtgakkndbcilclaaW.PrintWords
open Go.RowKit Go.Proofs.YtgakkndbcilclaaW.PrintLast
section
variable {P : Program} {ops : Array Oper} {rest : List Oper} {o : Oper} {a : Act} {Q : Exit → Act → World → Prop} {W : World}
theorem gate_callee {f : FuncId} {as : Array Operand} {ts : Array TypeId} (_h0 : o.op = .call { callee := .value (.func f), args := as, argTypes := ts }) (h1 : wpList P ops Q (o :: rest) a W) : wpList P ops Q (o :: rest) a W := h1
theorem gate_builtin {b : Builtin} {xs : Array Operand} {ts : Array TypeId} (_h0 : o.op = .call { callee := .builtin b, args := xs, argTypes := ts }) (h1 : wpList P ops Q (o :: rest) a W) : wpList P ops Q (o :: rest) a W := h1
end
theorem pS : (∀ (α : Type) (xs : List α) (i : Nat) (a : α), xs.toArray.setIfInBounds i a = (xs.set i a).toArray) ∧ (∀ (α : Type) (x : α) (xs : List α) (b : α), (x :: xs).set 0 b = b :: xs) ∧ (∀ (α : Type) (x : α) (xs : List α) (n : Nat) (b : α), (x :: xs).set (n + 1) b = x :: xs.set n b) ∧ (∀ n : Int, IntKind.i64.wrap n = wrap64 n) ∧ (∀ n : Int, IntKind.i32.wrap n = wrap32 n) :=
  ⟨fun _ _ _ _ => List.setIfInBounds_toArray .., fun _ _ _ _ => rfl, fun _ _ _ _ _ => rfl, i64_w, i32_w⟩
abbrev As := Aside0
theorem Am {p : Prop} (h : p) : Aside0 p := ⟨h⟩
section
variable {w W : World} {g : Nat}
theorem kN {o : Obj} (h : w.heap[g]? = some o) (n : Nat) : (w.drewN n).heap[g]? = some o := blk_drewN h n
theorem kD {o : Obj} (h : w.heap[g]? = some o) : w.drew.heap[g]? = some o := blk_drew h
theorem kA {o : Obj} (h : w.heap[g]? = some o) (o' : Obj) : (w.alloc o').heap[g]? = some o := blk_alloc h o'
theorem bN {B : Nat} (h : Below B w W) (n : Nat) : Below B w (W.drewN n) := pw_below_drewN h n
theorem bD {B : Nat} (h : Below B w W) : Below B w W.drew := below_drew1 h
theorem bA (h : Below w.heap.size w W) (o : Obj) : Below w.heap.size w (W.alloc o) := below_alloc h o
theorem bS {j : Nat} {v : Value} (h : Below w.heap.size w W) (hg : w.heap.size ≤ g) : Below w.heap.size w (W.setCell ⟨g, j, none⟩ v) := below_set h hg
theorem kC {t : TypeId} {cs : Array Value} (h : w.heap[g]? = some (.cells cs t (0, 0))) (i : Nat) : w.cell? ⟨g, i, none⟩ = cs[i]? := blk_cell h i
theorem kF {t : TypeId} {cs : Array Value} (h : w.heap[g]? = some (.cells cs t (0, 0))) (i : Nat) : w.frozen? ⟨g, i, none⟩ = false := blk_frozen h i
end
def mx (a b : Int) : Int := if a < b then b else a
def mn (a b : Int) : Int := if b < a then b else a
theorem drewN_self (w : World) (n : Nat) : w.drewN n = w.drewN n := rfl
end Go.Proofs.YtgakkndbcilclaaW.PrintWords
