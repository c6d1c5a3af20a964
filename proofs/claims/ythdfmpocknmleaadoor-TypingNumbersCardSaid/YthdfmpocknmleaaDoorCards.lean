/-
  DERIVED. GIVEN WITH THE SEED: THE CARDS: each row of YthdfmpocknmleaaDoorRows.lean that lists a variable, with what it lists TIED to the program's text (the seventh form; the later family's looks); each row that meets fmt, with fmt's text TOLD by the authors' own Lean function (tested against real Go, not proved from fmt's source: count such statements apart). THE CARD IS WHAT COUNTS. Prove the row's statement (the work); the ties are given (YthdfmpocknmleaaDoorTie.lean); close each card by the builder's one call (the guide's Derived/Test/ToyasCard.lean, 'card_holds'). Laid BY PROGRAM, IN A SANDBOX (cutbox-door.mjs). By AI agents, Wed Nov 11 2026. No macro, syntax, notation, axiom, sorry.
-/
import Derived.Test.YthdfmpocknmleaaDoorRows
import GoSem.ClaimSeven
namespace Go.Proofs.YthdfmpocknmleaaDoor
namespace Rows

/-- THE TIED CARD OF 'dioramalaw10.TypingRenamed'. -/
def typingRenamedCard : Claim7 := { stood := { row := typingRenamedRow, standIns := [], harness := (true, "75c9d8c562b29a307fd9a1f5effe52d3cb8a3083aa3c359036d7f28e74623352"), looks := true }, kinds := [], alts := [], laidByText := true, laidKinds := [.data, .data, .data, .widerDeep, .funcs], laidTests := true, laidLooks := .later }
def TypingRenamedCardSaid : Prop := Claim7.holds Tryd.pinned (.plain (OpenSpec.ofChange typingRenamedSpec)) typingRenamedCard

/-- THE TIED CARD OF 'dioramalaw10.TypingFewer'. -/
def typingFewerCard : Claim7 := { stood := { row := typingFewerRow, standIns := [], harness := (true, "75c9d8c562b29a307fd9a1f5effe52d3cb8a3083aa3c359036d7f28e74623352"), looks := true }, kinds := [], alts := [], laidByText := true, laidKinds := [.data, .data, .data, .widerDeep, .funcs], laidTests := true, laidLooks := .later }
def TypingFewerCardSaid : Prop := Claim7.holds Tryd.pinned (.plain (OpenSpec.ofChange typingFewerSpec)) typingFewerCard

/-- THE TIED CARD OF 'dioramalaw10.TypingNumbers'. -/
def typingNumbersCard : Claim7 := { stood := { row := typingNumbersRow, standIns := [], harness := (true, "75c9d8c562b29a307fd9a1f5effe52d3cb8a3083aa3c359036d7f28e74623352"), looks := true }, kinds := [], alts := [], laidByText := true, laidKinds := [.data, .data, .data, .widerDeep, .funcs], laidTests := true, laidLooks := .later }
def TypingNumbersCardSaid : Prop := Claim7.holds Tryd.pinned (.plain (OpenSpec.ofChange typingNumbersSpec)) typingNumbersCard

/-- THE SECOND FORM's CARD OF 'dioramalaw10.TypingRenamed'. -/
def typingRenamedUptoCard : Claim7 := { stood := { row := typingRenamedUptoRow, standIns := [], harness := (true, "75c9d8c562b29a307fd9a1f5effe52d3cb8a3083aa3c359036d7f28e74623352"), looks := true }, kinds := [], alts := [], laidByText := true, laidKinds := [.data, .data, .data, .widerDeep, .funcs], laidTests := true, laidLooks := .later }
def TypingRenamedUptoCardSaid : Prop := Claim7.holds Tryd.pinned (.plain (OpenSpec.upto typingRenamedSpec)) typingRenamedUptoCard

/-- THE SECOND FORM's CARD OF 'dioramalaw10.TypingFewer'. -/
def typingFewerUptoCard : Claim7 := { stood := { row := typingFewerUptoRow, standIns := [], harness := (true, "75c9d8c562b29a307fd9a1f5effe52d3cb8a3083aa3c359036d7f28e74623352"), looks := true }, kinds := [], alts := [], laidByText := true, laidKinds := [.data, .data, .data, .widerDeep, .funcs], laidTests := true, laidLooks := .later }
def TypingFewerUptoCardSaid : Prop := Claim7.holds Tryd.pinned (.plain (OpenSpec.upto typingFewerSpec)) typingFewerUptoCard

/-- THE SECOND FORM's CARD OF 'dioramalaw10.TypingNumbers'. -/
def typingNumbersUptoCard : Claim7 := { stood := { row := typingNumbersUptoRow, standIns := [], harness := (true, "75c9d8c562b29a307fd9a1f5effe52d3cb8a3083aa3c359036d7f28e74623352"), looks := true }, kinds := [], alts := [], laidByText := true, laidKinds := [.data, .data, .data, .widerDeep, .funcs], laidTests := true, laidLooks := .later }
def TypingNumbersUptoCardSaid : Prop := Claim7.holds Tryd.pinned (.plain (OpenSpec.upto typingNumbersSpec)) typingNumbersUptoCard
end Rows
end Go.Proofs.YthdfmpocknmleaaDoor
