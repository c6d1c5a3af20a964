/-
  DERIVED. GIVEN WITH THE SEED: THE CARDS: each row of YtohojolgolinoaaGreatDoorRows.lean that lists a variable, with what it lists TIED to the program's text (the seventh form; the later family's looks); each row that meets fmt, with fmt's text TOLD by the authors' own Lean function (tested against real Go, not proved from fmt's source: count such statements apart). THE CARD IS WHAT COUNTS. Prove the row's statement (the work); the ties are given (YtohojolgolinoaaGreatDoorTie.lean); close each card by the builder's one call (the guide's Derived/Test/ToyasCard.lean, 'card_holds'). Laid BY PROGRAM, IN A SANDBOX (cutbox-door.mjs). By AI agents, Wed Nov 11 2026. No macro, syntax, notation, axiom, sorry.
-/
import Derived.Test.YtohojolgolinoaaGreatDoorRows
import GoSem.ClaimSeven
namespace Go.Proofs.YtohojolgolinoaaGreatDoor
namespace Rows

/-- THE TIED CARD OF 'dioramalaw37.EditKept'. -/
def editKeptCard : Claim7 := { stood := { row := editKeptRow, standIns := [], harness := (true, "f76a34097fde33beebb02a2defd081b8d2801e95c7b03da73fc865d1b7531b87"), looks := true }, kinds := [], alts := [], laidByText := true, laidKinds := [.data, .data, .data, .widerDeep, .funcs], laidTests := true, laidLooks := .later }
def EditKeptCardSaid : Prop := Claim7.holds Tryz.pinned (.plain (OpenSpec.ofChange editKeptSpec)) editKeptCard

/-- THE TIED CARD OF 'dioramalaw37.EditWorlds'. -/
def editWorldsCard : Claim7 := { stood := { row := editWorldsRow, standIns := [], harness := (true, "f76a34097fde33beebb02a2defd081b8d2801e95c7b03da73fc865d1b7531b87"), looks := true }, kinds := [], alts := [], laidByText := true, laidKinds := [.data, .data, .data, .widerDeep, .funcs], laidTests := true, laidLooks := .later }
def EditWorldsCardSaid : Prop := Claim7.holds Tryz.pinned (.plain (OpenSpec.ofChange editWorldsSpec)) editWorldsCard

/-- THE SECOND FORM's CARD OF 'dioramalaw37.EditKept'. -/
def editKeptUptoCard : Claim7 := { stood := { row := editKeptUptoRow, standIns := [], harness := (true, "f76a34097fde33beebb02a2defd081b8d2801e95c7b03da73fc865d1b7531b87"), looks := true }, kinds := [], alts := [], laidByText := true, laidKinds := [.data, .data, .data, .widerDeep, .funcs], laidTests := true, laidLooks := .later }
def EditKeptUptoCardSaid : Prop := Claim7.holds Tryz.pinned (.plain (OpenSpec.upto editKeptSpec)) editKeptUptoCard

/-- THE SECOND FORM's CARD OF 'dioramalaw37.EditWorlds'. -/
def editWorldsUptoCard : Claim7 := { stood := { row := editWorldsUptoRow, standIns := [], harness := (true, "f76a34097fde33beebb02a2defd081b8d2801e95c7b03da73fc865d1b7531b87"), looks := true }, kinds := [], alts := [], laidByText := true, laidKinds := [.data, .data, .data, .widerDeep, .funcs], laidTests := true, laidLooks := .later }
def EditWorldsUptoCardSaid : Prop := Claim7.holds Tryz.pinned (.plain (OpenSpec.upto editWorldsSpec)) editWorldsUptoCard
end Rows
end Go.Proofs.YtohojolgolinoaaGreatDoor
