/-
  No cell of these rows narrows 'for every input' (looked for: loops, veiled, ifaces, maps, wideKeys, modest, calm, conditions, laid).
  DERIVED. THE GIVEN ROWS OF THIS SEAT. 11 by the template 'for every input the law returns true; each argument reads behind the call as it read before'; 0 by the template 'total and deterministic' (their statements: YtgakkndbcilclaaTotals.lean).
  GIVEN WITH THE SEED: the statements are not yours to turn. If you find one false, say at which input.
  Laid BY PROGRAM, IN A SANDBOX (cutbox-rows.mjs): the forced cells as the released guide's own fill.sh prints them over the translation 669ab6cabbc4ce16… (all of the seat's roots in one cut). By AI agents, Wed Nov 11 2026. No macro, syntax, notation, axiom, sorry.
-/
import Derived.Test.YtgakkndbcilclaaChecked
import GoSem.Claim
import GoSem.ClaimJoined
import GoSem.ClaimMapViews
import Derived.JoinedTies
import Derived.KernelRfl
namespace Go.Proofs.Ytgakkndbcilclaa
/- THE CELL 'sum', in the pinned program and in every row, IS THE sha256 OF THE DUMP (.gsa) THAT YtgakkndbcilclaaProg.lean LOADS. Nothing in Lean hashes anything: it is a label: what it is worth is what the hold of that sum in a sandbox is worth. -/
noncomputable def Try.pinned : Pinned := { name := "ytgakkndbcilclaa", sum := "669ab6cabbc4ce1617e8b95f4d686e241e889c0116fc2f32d2c0146832f1cde8", checked := Try.checked }
namespace Rows
def none {H : Type} : Left H := { results := [], args := [] }

/-- 'laws.FnExactProfileOk': WHATEVER THE INPUT: true; the input reads as it did. -/
def fnExactProfileOkSpec : ChangeSpec := { name := "fnExactProfileOk", fn := fun _ => fun
  | [d] => { results := [.lit (.bool true)], args := [d] }
  | _ => none }
def fnExactProfileOkRow : OpenClaim := { program := "ytgakkndbcilclaa", sum := "669ab6cabbc4ce1617e8b95f4d686e241e889c0116fc2f32d2c0146832f1cde8", func := "loop.example/sprag/laws.FnExactProfileOk", spec := "fnExactProfileOk", unfollowed := true, recurses := true, apart := false }
def FnExactProfileOkSaid : Prop := fnExactProfileOkRow.holds Try.pinned (OpenSpec.ofChange fnExactProfileOkSpec)

/-- ITS FALSE NEIGHBOUR: 'it returns false'. Refute it at one input. -/
def fnExactProfileOkWrong : ChangeSpec := { name := "fnExactProfileOk", fn := fun _ => fun
  | [d] => { results := [.lit (.bool false)], args := [d] }
  | _ => none }
def FnExactProfileOkWrongFalsely : Prop := fnExactProfileOkRow.holds Try.pinned (OpenSpec.ofChange fnExactProfileOkWrong)

/-- 'laws.FnExactLimitAt': WHATEVER THE INPUT: true; the input reads as it did. -/
def fnExactLimitAtSpec : ChangeSpec := { name := "fnExactLimitAt", fn := fun _ => fun
  | [d1, d2] => { results := [.lit (.bool true)], args := [d1, d2] }
  | _ => none }
def fnExactLimitAtRow : OpenClaim := { program := "ytgakkndbcilclaa", sum := "669ab6cabbc4ce1617e8b95f4d686e241e889c0116fc2f32d2c0146832f1cde8", func := "loop.example/sprag/laws.FnExactLimitAt", spec := "fnExactLimitAt", unfollowed := true, recurses := true, apart := false }
def FnExactLimitAtSaid : Prop := fnExactLimitAtRow.holds Try.pinned (OpenSpec.ofChange fnExactLimitAtSpec)

/-- ITS FALSE NEIGHBOUR: 'it returns false'. Refute it at one input. -/
def fnExactLimitAtWrong : ChangeSpec := { name := "fnExactLimitAt", fn := fun _ => fun
  | [d1, d2] => { results := [.lit (.bool false)], args := [d1, d2] }
  | _ => none }
def FnExactLimitAtWrongFalsely : Prop := fnExactLimitAtRow.holds Try.pinned (OpenSpec.ofChange fnExactLimitAtWrong)

/-- 'laws.FnExactBrakeAt': WHATEVER THE INPUT: true; the input reads as it did. -/
def fnExactBrakeAtSpec : ChangeSpec := { name := "fnExactBrakeAt", fn := fun _ => fun
  | [d1, d2] => { results := [.lit (.bool true)], args := [d1, d2] }
  | _ => none }
def fnExactBrakeAtRow : OpenClaim := { program := "ytgakkndbcilclaa", sum := "669ab6cabbc4ce1617e8b95f4d686e241e889c0116fc2f32d2c0146832f1cde8", func := "loop.example/sprag/laws.FnExactBrakeAt", spec := "fnExactBrakeAt", unfollowed := true, recurses := true, apart := false }
def FnExactBrakeAtSaid : Prop := fnExactBrakeAtRow.holds Try.pinned (OpenSpec.ofChange fnExactBrakeAtSpec)

/-- ITS FALSE NEIGHBOUR: 'it returns false'. Refute it at one input. -/
def fnExactBrakeAtWrong : ChangeSpec := { name := "fnExactBrakeAt", fn := fun _ => fun
  | [d1, d2] => { results := [.lit (.bool false)], args := [d1, d2] }
  | _ => none }
def FnExactBrakeAtWrongFalsely : Prop := fnExactBrakeAtRow.holds Try.pinned (OpenSpec.ofChange fnExactBrakeAtWrong)

/-- 'laws.FnExactStandAt': WHATEVER THE INPUT: true; the input reads as it did. -/
def fnExactStandAtSpec : ChangeSpec := { name := "fnExactStandAt", fn := fun _ => fun
  | [d1, d2, d3] => { results := [.lit (.bool true)], args := [d1, d2, d3] }
  | _ => none }
def fnExactStandAtRow : OpenClaim := { program := "ytgakkndbcilclaa", sum := "669ab6cabbc4ce1617e8b95f4d686e241e889c0116fc2f32d2c0146832f1cde8", func := "loop.example/sprag/laws.FnExactStandAt", spec := "fnExactStandAt", unfollowed := true, recurses := true, apart := false }
def FnExactStandAtSaid : Prop := fnExactStandAtRow.holds Try.pinned (OpenSpec.ofChange fnExactStandAtSpec)

/-- ITS FALSE NEIGHBOUR: 'it returns false'. Refute it at one input. -/
def fnExactStandAtWrong : ChangeSpec := { name := "fnExactStandAt", fn := fun _ => fun
  | [d1, d2, d3] => { results := [.lit (.bool false)], args := [d1, d2, d3] }
  | _ => none }
def FnExactStandAtWrongFalsely : Prop := fnExactStandAtRow.holds Try.pinned (OpenSpec.ofChange fnExactStandAtWrong)

/-- 'laws.FnExactSafe': WHATEVER THE INPUT: true; the input reads as it did. -/
def fnExactSafeSpec : ChangeSpec := { name := "fnExactSafe", fn := fun _ => fun
  | [d1, d2, d3] => { results := [.lit (.bool true)], args := [d1, d2, d3] }
  | _ => none }
def fnExactSafeRow : OpenClaim := { program := "ytgakkndbcilclaa", sum := "669ab6cabbc4ce1617e8b95f4d686e241e889c0116fc2f32d2c0146832f1cde8", func := "loop.example/sprag/laws.FnExactSafe", spec := "fnExactSafe", unfollowed := true, recurses := true, apart := false }
def FnExactSafeSaid : Prop := fnExactSafeRow.holds Try.pinned (OpenSpec.ofChange fnExactSafeSpec)

/-- ITS FALSE NEIGHBOUR: 'it returns false'. Refute it at one input. -/
def fnExactSafeWrong : ChangeSpec := { name := "fnExactSafe", fn := fun _ => fun
  | [d1, d2, d3] => { results := [.lit (.bool false)], args := [d1, d2, d3] }
  | _ => none }
def FnExactSafeWrongFalsely : Prop := fnExactSafeRow.holds Try.pinned (OpenSpec.ofChange fnExactSafeWrong)

/-- 'laws.FnExactRunOk': WHATEVER THE INPUT: true; the input reads as it did. -/
def fnExactRunOkSpec : ChangeSpec := { name := "fnExactRunOk", fn := fun _ => fun
  | [d1, d2, d3, d4, d5] => { results := [.lit (.bool true)], args := [d1, d2, d3, d4, d5] }
  | _ => none }
def fnExactRunOkRow : OpenClaim := { program := "ytgakkndbcilclaa", sum := "669ab6cabbc4ce1617e8b95f4d686e241e889c0116fc2f32d2c0146832f1cde8", func := "loop.example/sprag/laws.FnExactRunOk", spec := "fnExactRunOk", unfollowed := true, recurses := true, apart := false }
def FnExactRunOkSaid : Prop := fnExactRunOkRow.holds Try.pinned (OpenSpec.ofChange fnExactRunOkSpec)

/-- ITS FALSE NEIGHBOUR: 'it returns false'. Refute it at one input. -/
def fnExactRunOkWrong : ChangeSpec := { name := "fnExactRunOk", fn := fun _ => fun
  | [d1, d2, d3, d4, d5] => { results := [.lit (.bool false)], args := [d1, d2, d3, d4, d5] }
  | _ => none }
def FnExactRunOkWrongFalsely : Prop := fnExactRunOkRow.holds Try.pinned (OpenSpec.ofChange fnExactRunOkWrong)

/-- 'laws.FnExactMostNow': WHATEVER THE INPUT: true; the input reads as it did. -/
def fnExactMostNowSpec : ChangeSpec := { name := "fnExactMostNow", fn := fun _ => fun
  | [d1, d2] => { results := [.lit (.bool true)], args := [d1, d2] }
  | _ => none }
def fnExactMostNowRow : OpenClaim := { program := "ytgakkndbcilclaa", sum := "669ab6cabbc4ce1617e8b95f4d686e241e889c0116fc2f32d2c0146832f1cde8", func := "loop.example/sprag/laws.FnExactMostNow", spec := "fnExactMostNow", unfollowed := true, recurses := true, apart := false }
def FnExactMostNowSaid : Prop := fnExactMostNowRow.holds Try.pinned (OpenSpec.ofChange fnExactMostNowSpec)

/-- ITS FALSE NEIGHBOUR: 'it returns false'. Refute it at one input. -/
def fnExactMostNowWrong : ChangeSpec := { name := "fnExactMostNow", fn := fun _ => fun
  | [d1, d2] => { results := [.lit (.bool false)], args := [d1, d2] }
  | _ => none }
def FnExactMostNowWrongFalsely : Prop := fnExactMostNowRow.holds Try.pinned (OpenSpec.ofChange fnExactMostNowWrong)

/-- 'laws.FnExactReadProfile': WHATEVER THE INPUT: true; the input reads as it did. -/
def fnExactReadProfileSpec : ChangeSpec := { name := "fnExactReadProfile", fn := fun _ => fun
  | [d] => { results := [.lit (.bool true)], args := [d] }
  | _ => none }
def fnExactReadProfileRow : OpenClaim := { program := "ytgakkndbcilclaa", sum := "669ab6cabbc4ce1617e8b95f4d686e241e889c0116fc2f32d2c0146832f1cde8", func := "loop.example/sprag/laws.FnExactReadProfile", spec := "fnExactReadProfile", unfollowed := true, recurses := true, apart := false }
def FnExactReadProfileSaid : Prop := fnExactReadProfileRow.holds Try.pinned (OpenSpec.ofChange fnExactReadProfileSpec)

/-- ITS FALSE NEIGHBOUR: 'it returns false'. Refute it at one input. -/
def fnExactReadProfileWrong : ChangeSpec := { name := "fnExactReadProfile", fn := fun _ => fun
  | [d] => { results := [.lit (.bool false)], args := [d] }
  | _ => none }
def FnExactReadProfileWrongFalsely : Prop := fnExactReadProfileRow.holds Try.pinned (OpenSpec.ofChange fnExactReadProfileWrong)

/-- 'laws.FnExactCurve': WHATEVER THE INPUT: true; the input reads as it did. -/
def fnExactCurveSpec : ChangeSpec := { name := "fnExactCurve", fn := fun _ => fun
  | [d1, d2] => { results := [.lit (.bool true)], args := [d1, d2] }
  | _ => none }
def fnExactCurveRow : OpenClaim := { program := "ytgakkndbcilclaa", sum := "669ab6cabbc4ce1617e8b95f4d686e241e889c0116fc2f32d2c0146832f1cde8", func := "loop.example/sprag/laws.FnExactCurve", spec := "fnExactCurve", unfollowed := true, recurses := true, apart := false }
def FnExactCurveSaid : Prop := fnExactCurveRow.holds Try.pinned (OpenSpec.ofChange fnExactCurveSpec)

/-- ITS FALSE NEIGHBOUR: 'it returns false'. Refute it at one input. -/
def fnExactCurveWrong : ChangeSpec := { name := "fnExactCurve", fn := fun _ => fun
  | [d1, d2] => { results := [.lit (.bool false)], args := [d1, d2] }
  | _ => none }
def FnExactCurveWrongFalsely : Prop := fnExactCurveRow.holds Try.pinned (OpenSpec.ofChange fnExactCurveWrong)

/-- 'laws.FnExactWatch': WHATEVER THE INPUT: true; the input reads as it did. -/
def fnExactWatchSpec : ChangeSpec := { name := "fnExactWatch", fn := fun _ => fun
  | [d1, d2, d3, d4] => { results := [.lit (.bool true)], args := [d1, d2, d3, d4] }
  | _ => none }
def fnExactWatchRow : OpenClaim := { program := "ytgakkndbcilclaa", sum := "669ab6cabbc4ce1617e8b95f4d686e241e889c0116fc2f32d2c0146832f1cde8", func := "loop.example/sprag/laws.FnExactWatch", spec := "fnExactWatch", unfollowed := true, recurses := true, apart := false }
def FnExactWatchSaid : Prop := fnExactWatchRow.holds Try.pinned (OpenSpec.ofChange fnExactWatchSpec)

/-- ITS FALSE NEIGHBOUR: 'it returns false'. Refute it at one input. -/
def fnExactWatchWrong : ChangeSpec := { name := "fnExactWatch", fn := fun _ => fun
  | [d1, d2, d3, d4] => { results := [.lit (.bool false)], args := [d1, d2, d3, d4] }
  | _ => none }
def FnExactWatchWrongFalsely : Prop := fnExactWatchRow.holds Try.pinned (OpenSpec.ofChange fnExactWatchWrong)

/-- 'laws.FnExactFastest': WHATEVER THE INPUT: true; the input reads as it did. -/
def fnExactFastestSpec : ChangeSpec := { name := "fnExactFastest", fn := fun _ => fun
  | [d1, d2, d3, d4] => { results := [.lit (.bool true)], args := [d1, d2, d3, d4] }
  | _ => none }
def fnExactFastestRow : OpenClaim := { program := "ytgakkndbcilclaa", sum := "669ab6cabbc4ce1617e8b95f4d686e241e889c0116fc2f32d2c0146832f1cde8", func := "loop.example/sprag/laws.FnExactFastest", spec := "fnExactFastest", unfollowed := true, recurses := true, apart := false }
def FnExactFastestSaid : Prop := fnExactFastestRow.holds Try.pinned (OpenSpec.ofChange fnExactFastestSpec)

/-- ITS FALSE NEIGHBOUR: 'it returns false'. Refute it at one input. -/
def fnExactFastestWrong : ChangeSpec := { name := "fnExactFastest", fn := fun _ => fun
  | [d1, d2, d3, d4] => { results := [.lit (.bool false)], args := [d1, d2, d3, d4] }
  | _ => none }
def FnExactFastestWrongFalsely : Prop := fnExactFastestRow.holds Try.pinned (OpenSpec.ofChange fnExactFastestWrong)

/- THE SECOND FORM. 'bulk': how many values and letters a reading holds, each counted each time it is reached (what is shared counts as often as it is met; a slice's spare places count too). A statement '..UptoSaid' is the law's where the arguments, and the package variables that the reading takes, are together of bulk at most 1048576: NARROWER than '..Said'. Prove '..Said' where nothing that the law and all that it calls make is longer than what came in: it says more and counts as full. Else prove '..UptoSaid'. A law counts once. -/
mutual
def uptoBulk {H : Type} : DataW H → Nat
  | .lit (.string bytes) => bytes.length + 1
  | .lit _ => 1
  | .nil => 1
  | .ptr d => uptoBulk d + 1
  | .slice elems spare => uptoBulkAll elems + uptoBulkAll spare + 1
  | .agg parts => uptoBulkAll parts + 1
  | .iface _ d => uptoBulk d + 1
  | .map entries => uptoBulkEntries entries + 1
  | .held _ => 1
def uptoBulkAll {H : Type} : List (DataW H) → Nat
  | [] => 0
  | d :: r => uptoBulk d + uptoBulkAll r
def uptoBulkEntries {H : Type} : List (Lit × DataW H) → Nat
  | [] => 0
  | x :: r => uptoBulkEntry x + uptoBulkEntries r
def uptoBulkEntry {H : Type} : Lit × DataW H → Nat
  | (.string bytes, d) => bytes.length + uptoBulk d + 1
  | (_, d) => uptoBulk d + 1
 end
def uptoSmall : (H : Type) → List (DataW H) → Bool := fun _ ds => decide (uptoBulkAll ds ≤ 1048576)
def OpenSpec.upto (s : _root_.Go.ChangeSpec) : _root_.Go.OpenSpec := { _root_.Go.OpenSpec.ofChange s with cond := some uptoSmall }

/-- 'laws.FnExactProfileOk', WHERE WHAT IT READS IS OF BULK AT MOST 1048576: true; the input reads as it did. -/
def fnExactProfileOkUptoRow : OpenClaim := { program := "ytgakkndbcilclaa", sum := "669ab6cabbc4ce1617e8b95f4d686e241e889c0116fc2f32d2c0146832f1cde8", func := "loop.example/sprag/laws.FnExactProfileOk", spec := "fnExactProfileOk", unfollowed := true, recurses := true, apart := false, narrowed := true }
def FnExactProfileOkUptoSaid : Prop := fnExactProfileOkUptoRow.holds Try.pinned (OpenSpec.upto fnExactProfileOkSpec)

/-- 'laws.FnExactLimitAt', WHERE WHAT IT READS IS OF BULK AT MOST 1048576: true; the input reads as it did. -/
def fnExactLimitAtUptoRow : OpenClaim := { program := "ytgakkndbcilclaa", sum := "669ab6cabbc4ce1617e8b95f4d686e241e889c0116fc2f32d2c0146832f1cde8", func := "loop.example/sprag/laws.FnExactLimitAt", spec := "fnExactLimitAt", unfollowed := true, recurses := true, apart := false, narrowed := true }
def FnExactLimitAtUptoSaid : Prop := fnExactLimitAtUptoRow.holds Try.pinned (OpenSpec.upto fnExactLimitAtSpec)

/-- 'laws.FnExactBrakeAt', WHERE WHAT IT READS IS OF BULK AT MOST 1048576: true; the input reads as it did. -/
def fnExactBrakeAtUptoRow : OpenClaim := { program := "ytgakkndbcilclaa", sum := "669ab6cabbc4ce1617e8b95f4d686e241e889c0116fc2f32d2c0146832f1cde8", func := "loop.example/sprag/laws.FnExactBrakeAt", spec := "fnExactBrakeAt", unfollowed := true, recurses := true, apart := false, narrowed := true }
def FnExactBrakeAtUptoSaid : Prop := fnExactBrakeAtUptoRow.holds Try.pinned (OpenSpec.upto fnExactBrakeAtSpec)

/-- 'laws.FnExactStandAt', WHERE WHAT IT READS IS OF BULK AT MOST 1048576: true; the input reads as it did. -/
def fnExactStandAtUptoRow : OpenClaim := { program := "ytgakkndbcilclaa", sum := "669ab6cabbc4ce1617e8b95f4d686e241e889c0116fc2f32d2c0146832f1cde8", func := "loop.example/sprag/laws.FnExactStandAt", spec := "fnExactStandAt", unfollowed := true, recurses := true, apart := false, narrowed := true }
def FnExactStandAtUptoSaid : Prop := fnExactStandAtUptoRow.holds Try.pinned (OpenSpec.upto fnExactStandAtSpec)

/-- 'laws.FnExactSafe', WHERE WHAT IT READS IS OF BULK AT MOST 1048576: true; the input reads as it did. -/
def fnExactSafeUptoRow : OpenClaim := { program := "ytgakkndbcilclaa", sum := "669ab6cabbc4ce1617e8b95f4d686e241e889c0116fc2f32d2c0146832f1cde8", func := "loop.example/sprag/laws.FnExactSafe", spec := "fnExactSafe", unfollowed := true, recurses := true, apart := false, narrowed := true }
def FnExactSafeUptoSaid : Prop := fnExactSafeUptoRow.holds Try.pinned (OpenSpec.upto fnExactSafeSpec)

/-- 'laws.FnExactRunOk', WHERE WHAT IT READS IS OF BULK AT MOST 1048576: true; the input reads as it did. -/
def fnExactRunOkUptoRow : OpenClaim := { program := "ytgakkndbcilclaa", sum := "669ab6cabbc4ce1617e8b95f4d686e241e889c0116fc2f32d2c0146832f1cde8", func := "loop.example/sprag/laws.FnExactRunOk", spec := "fnExactRunOk", unfollowed := true, recurses := true, apart := false, narrowed := true }
def FnExactRunOkUptoSaid : Prop := fnExactRunOkUptoRow.holds Try.pinned (OpenSpec.upto fnExactRunOkSpec)

/-- 'laws.FnExactMostNow', WHERE WHAT IT READS IS OF BULK AT MOST 1048576: true; the input reads as it did. -/
def fnExactMostNowUptoRow : OpenClaim := { program := "ytgakkndbcilclaa", sum := "669ab6cabbc4ce1617e8b95f4d686e241e889c0116fc2f32d2c0146832f1cde8", func := "loop.example/sprag/laws.FnExactMostNow", spec := "fnExactMostNow", unfollowed := true, recurses := true, apart := false, narrowed := true }
def FnExactMostNowUptoSaid : Prop := fnExactMostNowUptoRow.holds Try.pinned (OpenSpec.upto fnExactMostNowSpec)

/-- 'laws.FnExactReadProfile', WHERE WHAT IT READS IS OF BULK AT MOST 1048576: true; the input reads as it did. -/
def fnExactReadProfileUptoRow : OpenClaim := { program := "ytgakkndbcilclaa", sum := "669ab6cabbc4ce1617e8b95f4d686e241e889c0116fc2f32d2c0146832f1cde8", func := "loop.example/sprag/laws.FnExactReadProfile", spec := "fnExactReadProfile", unfollowed := true, recurses := true, apart := false, narrowed := true }
def FnExactReadProfileUptoSaid : Prop := fnExactReadProfileUptoRow.holds Try.pinned (OpenSpec.upto fnExactReadProfileSpec)

/-- 'laws.FnExactCurve', WHERE WHAT IT READS IS OF BULK AT MOST 1048576: true; the input reads as it did. -/
def fnExactCurveUptoRow : OpenClaim := { program := "ytgakkndbcilclaa", sum := "669ab6cabbc4ce1617e8b95f4d686e241e889c0116fc2f32d2c0146832f1cde8", func := "loop.example/sprag/laws.FnExactCurve", spec := "fnExactCurve", unfollowed := true, recurses := true, apart := false, narrowed := true }
def FnExactCurveUptoSaid : Prop := fnExactCurveUptoRow.holds Try.pinned (OpenSpec.upto fnExactCurveSpec)

/-- 'laws.FnExactWatch', WHERE WHAT IT READS IS OF BULK AT MOST 1048576: true; the input reads as it did. -/
def fnExactWatchUptoRow : OpenClaim := { program := "ytgakkndbcilclaa", sum := "669ab6cabbc4ce1617e8b95f4d686e241e889c0116fc2f32d2c0146832f1cde8", func := "loop.example/sprag/laws.FnExactWatch", spec := "fnExactWatch", unfollowed := true, recurses := true, apart := false, narrowed := true }
def FnExactWatchUptoSaid : Prop := fnExactWatchUptoRow.holds Try.pinned (OpenSpec.upto fnExactWatchSpec)

/-- 'laws.FnExactFastest', WHERE WHAT IT READS IS OF BULK AT MOST 1048576: true; the input reads as it did. -/
def fnExactFastestUptoRow : OpenClaim := { program := "ytgakkndbcilclaa", sum := "669ab6cabbc4ce1617e8b95f4d686e241e889c0116fc2f32d2c0146832f1cde8", func := "loop.example/sprag/laws.FnExactFastest", spec := "fnExactFastest", unfollowed := true, recurses := true, apart := false, narrowed := true }
def FnExactFastestUptoSaid : Prop := fnExactFastestUptoRow.holds Try.pinned (OpenSpec.upto fnExactFastestSpec)

end Rows
end Go.Proofs.Ytgakkndbcilclaa
