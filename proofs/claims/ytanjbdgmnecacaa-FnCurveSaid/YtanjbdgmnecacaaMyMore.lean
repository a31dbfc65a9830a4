/- Small words of the walks of this seat: two gates (a look at an operation ahead of a step), 'max' and 'min' of whole numbers as the model has them. No condition. -/
import Derived.Test.YtanjbdgmnecacaaWWords
import Derived.Test.YtanjbdgmnecacaaWLast
namespace Go.Proofs.YtanjbdgmnecacaaW.PrintMore
open Go.RowKit Go.Proofs.YtanjbdgmnecacaaW.PrintWords
theorem max2_int (k k' : IntKind) (x y : Int) : Builtin.max2 (.int k x) (.int k' y) = pure (.int k (if x < y then y else x)) := by
  unfold Builtin.max2; simp only [gt_iff_lt]
theorem min2_int (k k' : IntKind) (x y : Int) : Builtin.min2 (.int k x) (.int k' y) = pure (.int k (if y < x then y else x)) := by
  unfold Builtin.min2; rfl
theorem max_two (ats : Array TypeId) (ty : TypeId) (a b : Value) : Builtin.max_ ats ty #[a, b] = (Builtin.max2 a b >>= fun s => pure s) := by
  unfold Builtin.max_; rfl
theorem min_two (ats : Array TypeId) (ty : TypeId) (a b : Value) : Builtin.min_ ats ty #[a, b] = (Builtin.min2 a b >>= fun s => pure s) := by
  unfold Builtin.min_; rfl
end Go.Proofs.YtanjbdgmnecacaaW.PrintMore
namespace Go.Proofs.YtanjbdgmnecacaaW.PrintWords
open Go.RowKit
section
variable {P : Program} {ops : Array Oper} {rest : List Oper} {o : Oper} {a : Act} {Q : Exit → Act → World → Prop} {W : World}
theorem gate_callee {f : FuncId} {as : Array Operand} {ts : Array TypeId} (_h0 : o.op = .call { callee := .value (.func f), args := as, argTypes := ts }) (h1 : wpList P ops Q (o :: rest) a W) : wpList P ops Q (o :: rest) a W := h1
theorem gate_builtin {b : Builtin} {xs : Array Operand} {ts : Array TypeId} (_h0 : o.op = .call { callee := .builtin b, args := xs, argTypes := ts }) (h1 : wpList P ops Q (o :: rest) a W) : wpList P ops Q (o :: rest) a W := h1
end
def mx (a b : Int) : Int := if a < b then b else a
def mn (a b : Int) : Int := if b < a then b else a
theorem drewN_self (w : World) (n : Nat) : w.drewN n = w.drewN n := rfl
end Go.Proofs.YtanjbdgmnecacaaW.PrintWords
