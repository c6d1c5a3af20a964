/-
  DERIVED. GIVEN WITH THE SEED: THE CARDS: each row of YtjioihpegfgbpaaGreatDoorRows.lean that lists a variable, with what it lists TIED to the program's text (the seventh form; the later family's looks); each row that meets fmt, with fmt's text TOLD by the authors' own Lean function (tested against real Go, not proved from fmt's source: count such statements apart). THE CARD IS WHAT COUNTS. Prove the row's statement (the work); the ties are given (YtjioihpegfgbpaaGreatDoorTie.lean); close each card by the builder's one call (the guide's Derived/Test/ToyasCard.lean, 'card_holds'). Laid BY PROGRAM, IN A SANDBOX (cutbox-door.mjs). By AI agents, Wed Nov 11 2026. No macro, syntax, notation, axiom, sorry.
-/
import Derived.Test.YtjioihpegfgbpaaGreatDoorRows
import GoSem.ClaimSeven
namespace Go.Proofs.YtjioihpegfgbpaaGreatDoor
namespace Rows

/-- THE TIED CARD OF 'dioramalaw35.ConvertSchemas'. -/
def convertSchemasCard : Claim7 := { stood := { row := convertSchemasRow, standIns := [], harness := (true, "a119cc046434d9ff6d8051d2f95c1f97a636f1817edbb1217353960314d65f6d"), looks := true }, kinds := [], alts := [], laidByText := true, laidKinds := [.data, .data, .data, .widerDeep, .funcs, .funcs], laidTests := true, laidLooks := .later }
def ConvertSchemasCardSaid : Prop := Claim7.holds Tryz.pinned (.plain (OpenSpec.ofChange convertSchemasSpec)) convertSchemasCard

/-- THE SECOND FORM's CARD OF 'dioramalaw35.ConvertSchemas'. -/
def convertSchemasUptoCard : Claim7 := { stood := { row := convertSchemasUptoRow, standIns := [], harness := (true, "a119cc046434d9ff6d8051d2f95c1f97a636f1817edbb1217353960314d65f6d"), looks := true }, kinds := [], alts := [], laidByText := true, laidKinds := [.data, .data, .data, .widerDeep, .funcs, .funcs], laidTests := true, laidLooks := .later }
def ConvertSchemasUptoCardSaid : Prop := Claim7.holds Tryz.pinned (.plain (OpenSpec.upto convertSchemasSpec)) convertSchemasUptoCard
end Rows
end Go.Proofs.YtjioihpegfgbpaaGreatDoor
