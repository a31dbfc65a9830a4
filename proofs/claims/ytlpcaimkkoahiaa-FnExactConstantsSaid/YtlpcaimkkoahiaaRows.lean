/-
  No cell of these rows narrows 'for every input' (looked for: loops, veiled, ifaces, maps, wideKeys, modest, calm, conditions, laid).
  DERIVED. THE GIVEN ROWS OF THIS SEAT. 7 by the template 'for every input the law returns true; each argument reads behind the call as it read before'; 0 by the template 'total and deterministic' (their statements: YtlpcaimkkoahiaaTotals.lean).
  GIVEN WITH THE SEED: the statements are not yours to turn. If you find one false, say at which input.
  Laid BY PROGRAM, IN A SANDBOX (cutbox-rows.mjs): the forced cells as the released guide's own fill.sh prints them over the translation f08398c46b94a2b4… (all of the seat's roots in one cut). By AI agents, Wed Nov 11 2026. No macro, syntax, notation, axiom, sorry.
-/
import Derived.Test.YtlpcaimkkoahiaaChecked
import GoSem.Claim
import GoSem.ClaimJoined
import GoSem.ClaimMapViews
import Derived.JoinedTies
import Derived.KernelRfl
namespace Go.Proofs.Ytlpcaimkkoahiaa
/- THE CELL 'sum', in the pinned program and in every row, IS THE sha256 OF THE DUMP (.gsa) THAT YtlpcaimkkoahiaaProg.lean LOADS. Nothing in Lean hashes anything: it is a label: what it is worth is what the hold of that sum in a sandbox is worth. -/
noncomputable def Try.pinned : Pinned := { name := "ytlpcaimkkoahiaa", sum := "f08398c46b94a2b48e231f4b1918df7731b2e625a351de050c71ea80c6482caa", checked := Try.checked }
namespace Rows
def none {H : Type} : Left H := { results := [], args := [] }

/-- 'laws.FnExactConstants': WHATEVER THE INPUT: true; the input reads as it did. -/
def fnExactConstantsSpec : ChangeSpec := { name := "fnExactConstants", fn := fun _ => fun
  | [] => { results := [.lit (.bool true)], args := [] }
  | _ => none }
def fnExactConstantsRow : OpenClaim := { program := "ytlpcaimkkoahiaa", sum := "f08398c46b94a2b48e231f4b1918df7731b2e625a351de050c71ea80c6482caa", func := "loop.example/sprag/laws.FnExactConstants", spec := "fnExactConstants", apart := false }
def FnExactConstantsSaid : Prop := fnExactConstantsRow.holds Try.pinned (OpenSpec.ofChange fnExactConstantsSpec)

/-- ITS FALSE NEIGHBOUR: 'it returns false'. Refute it at one input. -/
def fnExactConstantsWrong : ChangeSpec := { name := "fnExactConstants", fn := fun _ => fun
  | [] => { results := [.lit (.bool false)], args := [] }
  | _ => none }
def FnExactConstantsWrongFalsely : Prop := fnExactConstantsRow.holds Try.pinned (OpenSpec.ofChange fnExactConstantsWrong)

/-- 'laws.FnSums': WHATEVER THE INPUT: true; the input reads as it did. -/
def fnSumsSpec : ChangeSpec := { name := "fnSums", fn := fun _ => fun
  | [d] => { results := [.lit (.bool true)], args := [d] }
  | _ => none }
def fnSumsRow : OpenClaim := { program := "ytlpcaimkkoahiaa", sum := "f08398c46b94a2b48e231f4b1918df7731b2e625a351de050c71ea80c6482caa", func := "loop.example/sprag/laws.FnSums", spec := "fnSums", apart := false }
def FnSumsSaid : Prop := fnSumsRow.holds Try.pinned (OpenSpec.ofChange fnSumsSpec)

/-- ITS FALSE NEIGHBOUR: 'it returns false'. Refute it at one input. -/
def fnSumsWrong : ChangeSpec := { name := "fnSums", fn := fun _ => fun
  | [d] => { results := [.lit (.bool false)], args := [d] }
  | _ => none }
def FnSumsWrongFalsely : Prop := fnSumsRow.holds Try.pinned (OpenSpec.ofChange fnSumsWrong)

/-- 'laws.FnExactSlowTicks': WHATEVER THE INPUT: true; the input reads as it did. -/
def fnExactSlowTicksSpec : ChangeSpec := { name := "fnExactSlowTicks", fn := fun _ => fun
  | [d1, d2, d3] => { results := [.lit (.bool true)], args := [d1, d2, d3] }
  | _ => none }
def fnExactSlowTicksRow : OpenClaim := { program := "ytlpcaimkkoahiaa", sum := "f08398c46b94a2b48e231f4b1918df7731b2e625a351de050c71ea80c6482caa", func := "loop.example/sprag/laws.FnExactSlowTicks", spec := "fnExactSlowTicks", apart := false }
def FnExactSlowTicksSaid : Prop := fnExactSlowTicksRow.holds Try.pinned (OpenSpec.ofChange fnExactSlowTicksSpec)

/-- ITS FALSE NEIGHBOUR: 'it returns false'. Refute it at one input. -/
def fnExactSlowTicksWrong : ChangeSpec := { name := "fnExactSlowTicks", fn := fun _ => fun
  | [d1, d2, d3] => { results := [.lit (.bool false)], args := [d1, d2, d3] }
  | _ => none }
def FnExactSlowTicksWrongFalsely : Prop := fnExactSlowTicksRow.holds Try.pinned (OpenSpec.ofChange fnExactSlowTicksWrong)

/-- 'laws.FnExactSlowLen': WHATEVER THE INPUT: true; the input reads as it did. -/
def fnExactSlowLenSpec : ChangeSpec := { name := "fnExactSlowLen", fn := fun _ => fun
  | [d1, d2, d3] => { results := [.lit (.bool true)], args := [d1, d2, d3] }
  | _ => none }
def fnExactSlowLenRow : OpenClaim := { program := "ytlpcaimkkoahiaa", sum := "f08398c46b94a2b48e231f4b1918df7731b2e625a351de050c71ea80c6482caa", func := "loop.example/sprag/laws.FnExactSlowLen", spec := "fnExactSlowLen", apart := false }
def FnExactSlowLenSaid : Prop := fnExactSlowLenRow.holds Try.pinned (OpenSpec.ofChange fnExactSlowLenSpec)

/-- ITS FALSE NEIGHBOUR: 'it returns false'. Refute it at one input. -/
def fnExactSlowLenWrong : ChangeSpec := { name := "fnExactSlowLen", fn := fun _ => fun
  | [d1, d2, d3] => { results := [.lit (.bool false)], args := [d1, d2, d3] }
  | _ => none }
def FnExactSlowLenWrongFalsely : Prop := fnExactSlowLenRow.holds Try.pinned (OpenSpec.ofChange fnExactSlowLenWrong)

/-- 'laws.FnExactLeastBrake': WHATEVER THE INPUT: true; the input reads as it did. -/
def fnExactLeastBrakeSpec : ChangeSpec := { name := "fnExactLeastBrake", fn := fun _ => fun
  | [d1, d2, d3] => { results := [.lit (.bool true)], args := [d1, d2, d3] }
  | _ => none }
def fnExactLeastBrakeRow : OpenClaim := { program := "ytlpcaimkkoahiaa", sum := "f08398c46b94a2b48e231f4b1918df7731b2e625a351de050c71ea80c6482caa", func := "loop.example/sprag/laws.FnExactLeastBrake", spec := "fnExactLeastBrake", apart := false }
def FnExactLeastBrakeSaid : Prop := fnExactLeastBrakeRow.holds Try.pinned (OpenSpec.ofChange fnExactLeastBrakeSpec)

/-- ITS FALSE NEIGHBOUR: 'it returns false'. Refute it at one input. -/
def fnExactLeastBrakeWrong : ChangeSpec := { name := "fnExactLeastBrake", fn := fun _ => fun
  | [d1, d2, d3] => { results := [.lit (.bool false)], args := [d1, d2, d3] }
  | _ => none }
def FnExactLeastBrakeWrongFalsely : Prop := fnExactLeastBrakeRow.holds Try.pinned (OpenSpec.ofChange fnExactLeastBrakeWrong)

/-- 'laws.FnExactMostSpeed': WHATEVER THE INPUT: true; the input reads as it did. -/
def fnExactMostSpeedSpec : ChangeSpec := { name := "fnExactMostSpeed", fn := fun _ => fun
  | [d1, d2, d3, d4] => { results := [.lit (.bool true)], args := [d1, d2, d3, d4] }
  | _ => none }
def fnExactMostSpeedRow : OpenClaim := { program := "ytlpcaimkkoahiaa", sum := "f08398c46b94a2b48e231f4b1918df7731b2e625a351de050c71ea80c6482caa", func := "loop.example/sprag/laws.FnExactMostSpeed", spec := "fnExactMostSpeed", apart := false }
def FnExactMostSpeedSaid : Prop := fnExactMostSpeedRow.holds Try.pinned (OpenSpec.ofChange fnExactMostSpeedSpec)

/-- ITS FALSE NEIGHBOUR: 'it returns false'. Refute it at one input. -/
def fnExactMostSpeedWrong : ChangeSpec := { name := "fnExactMostSpeed", fn := fun _ => fun
  | [d1, d2, d3, d4] => { results := [.lit (.bool false)], args := [d1, d2, d3, d4] }
  | _ => none }
def FnExactMostSpeedWrongFalsely : Prop := fnExactMostSpeedRow.holds Try.pinned (OpenSpec.ofChange fnExactMostSpeedWrong)

/-- 'laws.FnMost': WHATEVER THE INPUT: true; the input reads as it did. -/
def fnMostSpec : ChangeSpec := { name := "fnMost", fn := fun _ => fun
  | [d] => { results := [.lit (.bool true)], args := [d] }
  | _ => none }
def fnMostRow : OpenClaim := { program := "ytlpcaimkkoahiaa", sum := "f08398c46b94a2b48e231f4b1918df7731b2e625a351de050c71ea80c6482caa", func := "loop.example/sprag/laws.FnMost", spec := "fnMost", apart := false }
def FnMostSaid : Prop := fnMostRow.holds Try.pinned (OpenSpec.ofChange fnMostSpec)

/-- ITS FALSE NEIGHBOUR: 'it returns false'. Refute it at one input. -/
def fnMostWrong : ChangeSpec := { name := "fnMost", fn := fun _ => fun
  | [d] => { results := [.lit (.bool false)], args := [d] }
  | _ => none }
def FnMostWrongFalsely : Prop := fnMostRow.holds Try.pinned (OpenSpec.ofChange fnMostWrong)

/- THE SECOND FORM. 'bulk': how many values and letters a reading holds, each counted each time it is reached (what is shared counts as often as it is met; a slice's spare places count too). A statement '..UptoSaid' is the law's where the arguments, and the package variables that the reading takes, are together of bulk at most 1048576: NARROWER than '..Said'. Prove '..Said' where nothing that the law and all that it calls make is longer than what came in: it says more and counts as full. Else prove '..UptoSaid'. A law counts once. -/
mutual
def uptoBulk {H : Type} : DataW H → Nat
  | .lit (.string bytes) => bytes.length + 1
  | .lit _ => 1
  | .nil => 1
  | .ptr d => uptoBulk d + 1
  | .slice elems spare => uptoBulkAll elems + uptoBulkAll spare + 1
  | .agg parts => uptoBulkAll parts + 1
  | .iface _ d => uptoBulk d + 1
  | .map entries => uptoBulkEntries entries + 1
  | .held _ => 1
def uptoBulkAll {H : Type} : List (DataW H) → Nat
  | [] => 0
  | d :: r => uptoBulk d + uptoBulkAll r
def uptoBulkEntries {H : Type} : List (Lit × DataW H) → Nat
  | [] => 0
  | x :: r => uptoBulkEntry x + uptoBulkEntries r
def uptoBulkEntry {H : Type} : Lit × DataW H → Nat
  | (.string bytes, d) => bytes.length + uptoBulk d + 1
  | (_, d) => uptoBulk d + 1
 end
def uptoSmall : (H : Type) → List (DataW H) → Bool := fun _ ds => decide (uptoBulkAll ds ≤ 1048576)
def OpenSpec.upto (s : _root_.Go.ChangeSpec) : _root_.Go.OpenSpec := { _root_.Go.OpenSpec.ofChange s with cond := some uptoSmall }

/-- 'laws.FnExactConstants', WHERE WHAT IT READS IS OF BULK AT MOST 1048576: true; the input reads as it did. -/
def fnExactConstantsUptoRow : OpenClaim := { program := "ytlpcaimkkoahiaa", sum := "f08398c46b94a2b48e231f4b1918df7731b2e625a351de050c71ea80c6482caa", func := "loop.example/sprag/laws.FnExactConstants", spec := "fnExactConstants", apart := false, narrowed := true }
def FnExactConstantsUptoSaid : Prop := fnExactConstantsUptoRow.holds Try.pinned (OpenSpec.upto fnExactConstantsSpec)

/-- 'laws.FnSums', WHERE WHAT IT READS IS OF BULK AT MOST 1048576: true; the input reads as it did. -/
def fnSumsUptoRow : OpenClaim := { program := "ytlpcaimkkoahiaa", sum := "f08398c46b94a2b48e231f4b1918df7731b2e625a351de050c71ea80c6482caa", func := "loop.example/sprag/laws.FnSums", spec := "fnSums", apart := false, narrowed := true }
def FnSumsUptoSaid : Prop := fnSumsUptoRow.holds Try.pinned (OpenSpec.upto fnSumsSpec)

/-- 'laws.FnExactSlowTicks', WHERE WHAT IT READS IS OF BULK AT MOST 1048576: true; the input reads as it did. -/
def fnExactSlowTicksUptoRow : OpenClaim := { program := "ytlpcaimkkoahiaa", sum := "f08398c46b94a2b48e231f4b1918df7731b2e625a351de050c71ea80c6482caa", func := "loop.example/sprag/laws.FnExactSlowTicks", spec := "fnExactSlowTicks", apart := false, narrowed := true }
def FnExactSlowTicksUptoSaid : Prop := fnExactSlowTicksUptoRow.holds Try.pinned (OpenSpec.upto fnExactSlowTicksSpec)

/-- 'laws.FnExactSlowLen', WHERE WHAT IT READS IS OF BULK AT MOST 1048576: true; the input reads as it did. -/
def fnExactSlowLenUptoRow : OpenClaim := { program := "ytlpcaimkkoahiaa", sum := "f08398c46b94a2b48e231f4b1918df7731b2e625a351de050c71ea80c6482caa", func := "loop.example/sprag/laws.FnExactSlowLen", spec := "fnExactSlowLen", apart := false, narrowed := true }
def FnExactSlowLenUptoSaid : Prop := fnExactSlowLenUptoRow.holds Try.pinned (OpenSpec.upto fnExactSlowLenSpec)

/-- 'laws.FnExactLeastBrake', WHERE WHAT IT READS IS OF BULK AT MOST 1048576: true; the input reads as it did. -/
def fnExactLeastBrakeUptoRow : OpenClaim := { program := "ytlpcaimkkoahiaa", sum := "f08398c46b94a2b48e231f4b1918df7731b2e625a351de050c71ea80c6482caa", func := "loop.example/sprag/laws.FnExactLeastBrake", spec := "fnExactLeastBrake", apart := false, narrowed := true }
def FnExactLeastBrakeUptoSaid : Prop := fnExactLeastBrakeUptoRow.holds Try.pinned (OpenSpec.upto fnExactLeastBrakeSpec)

/-- 'laws.FnExactMostSpeed', WHERE WHAT IT READS IS OF BULK AT MOST 1048576: true; the input reads as it did. -/
def fnExactMostSpeedUptoRow : OpenClaim := { program := "ytlpcaimkkoahiaa", sum := "f08398c46b94a2b48e231f4b1918df7731b2e625a351de050c71ea80c6482caa", func := "loop.example/sprag/laws.FnExactMostSpeed", spec := "fnExactMostSpeed", apart := false, narrowed := true }
def FnExactMostSpeedUptoSaid : Prop := fnExactMostSpeedUptoRow.holds Try.pinned (OpenSpec.upto fnExactMostSpeedSpec)

/-- 'laws.FnMost', WHERE WHAT IT READS IS OF BULK AT MOST 1048576: true; the input reads as it did. -/
def fnMostUptoRow : OpenClaim := { program := "ytlpcaimkkoahiaa", sum := "f08398c46b94a2b48e231f4b1918df7731b2e625a351de050c71ea80c6482caa", func := "loop.example/sprag/laws.FnMost", spec := "fnMost", apart := false, narrowed := true }
def FnMostUptoSaid : Prop := fnMostUptoRow.holds Try.pinned (OpenSpec.upto fnMostSpec)

end Rows
end Go.Proofs.Ytlpcaimkkoahiaa
