/-
  DERIVED. GIVEN WITH THE SEED: THE CARDS: each row of YtmhcoofnnmiejaaGreatDoorRows.lean that lists a variable, with what it lists TIED to the program's text (the seventh form; the later family's looks); each row that meets fmt, with fmt's text TOLD by the authors' own Lean function (tested against real Go, not proved from fmt's source: count such statements apart). THE CARD IS WHAT COUNTS. Prove the row's statement (the work); the ties are given (YtmhcoofnnmiejaaGreatDoorTie.lean); close each card by the builder's one call (the guide's Derived/Test/ToyasCard.lean, 'card_holds'). Laid BY PROGRAM, IN A SANDBOX (cutbox-door.mjs). By AI agents, Wed Nov 11 2026. No macro, syntax, notation, axiom, sorry.
-/
import Derived.Test.YtmhcoofnnmiejaaGreatDoorRows
import GoSem.ClaimSeven
namespace Go.Proofs.YtmhcoofnnmiejaaGreatDoor
namespace Rows

/-- THE TIED CARD OF 'dioramalaw37.EditNearest'. -/
def editNearestCard : Claim7 := { stood := { row := editNearestRow, standIns := [], harness := (true, "ac4a958b8200fc011000f089ec30a0369b993312c644511a22a4dd8ad4ca42f9"), looks := true }, kinds := [], alts := [], laidByText := true, laidKinds := [.data, .data, .data, .widerDeep, .funcs], laidTests := true, laidLooks := .later }
def EditNearestCardSaid : Prop := Claim7.holds Tryz.pinned (.plain (OpenSpec.ofChange editNearestSpec)) editNearestCard

/-- THE SECOND FORM's CARD OF 'dioramalaw37.EditNearest'. -/
def editNearestUptoCard : Claim7 := { stood := { row := editNearestUptoRow, standIns := [], harness := (true, "ac4a958b8200fc011000f089ec30a0369b993312c644511a22a4dd8ad4ca42f9"), looks := true }, kinds := [], alts := [], laidByText := true, laidKinds := [.data, .data, .data, .widerDeep, .funcs], laidTests := true, laidLooks := .later }
def EditNearestUptoCardSaid : Prop := Claim7.holds Tryz.pinned (.plain (OpenSpec.upto editNearestSpec)) editNearestUptoCard
end Rows
end Go.Proofs.YtmhcoofnnmiejaaGreatDoor
