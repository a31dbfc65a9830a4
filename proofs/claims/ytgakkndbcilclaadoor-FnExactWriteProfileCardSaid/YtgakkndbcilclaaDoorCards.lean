/-
  DERIVED. GIVEN WITH THE SEED: THE CARDS: each row of YtgakkndbcilclaaDoorRows.lean that lists a variable, with what it lists TIED to the program's text (the seventh form; the later family's looks); each row that meets fmt, with fmt's text TOLD by the authors' own Lean function (tested against real Go, not proved from fmt's source: count such statements apart). THE CARD IS WHAT COUNTS. Prove the row's statement (the work); the ties are given (YtgakkndbcilclaaDoorTie.lean); close each card by the builder's one call (the guide's Derived/Test/ToyasCard.lean, 'card_holds'). Laid BY PROGRAM, IN A SANDBOX (cutbox-door.mjs). By AI agents, Wed Nov 11 2026. No macro, syntax, notation, axiom, sorry.
-/
import Derived.Test.YtgakkndbcilclaaDoorRows
import GoSem.ClaimSeven
namespace Go.Proofs.YtgakkndbcilclaaDoor
namespace Rows

/-- THE TIED CARD OF 'laws.FnExactWriteProfile'. -/
def fnExactWriteProfileCard : Claim7 := { stood := { row := fnExactWriteProfileRow, standIns := [], harness := (true, "47d690ff54ef69b19bf7182f65d2c9817f943979b32a8ba9edd5df7e8dc851da"), looks := false }, kinds := [], alts := [], laidByText := true, laidKinds := [.data, .data, .data], laidTests := true, laidLooks := .later }
def FnExactWriteProfileCardSaid : Prop := Claim7.holds Tryd.pinned (.plain (OpenSpec.ofChange fnExactWriteProfileSpec)) fnExactWriteProfileCard

/-- THE SECOND FORM's CARD OF 'laws.FnExactWriteProfile'. -/
def fnExactWriteProfileUptoCard : Claim7 := { stood := { row := fnExactWriteProfileUptoRow, standIns := [], harness := (true, "47d690ff54ef69b19bf7182f65d2c9817f943979b32a8ba9edd5df7e8dc851da"), looks := false }, kinds := [], alts := [], laidByText := true, laidKinds := [.data, .data, .data], laidTests := true, laidLooks := .later }
def FnExactWriteProfileUptoCardSaid : Prop := Claim7.holds Tryd.pinned (.plain (OpenSpec.upto fnExactWriteProfileSpec)) fnExactWriteProfileUptoCard
end Rows
end Go.Proofs.YtgakkndbcilclaaDoor
