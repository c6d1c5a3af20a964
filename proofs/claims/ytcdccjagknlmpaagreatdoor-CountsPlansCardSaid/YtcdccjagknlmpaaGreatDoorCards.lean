/-
  DERIVED. GIVEN WITH THE SEED: THE CARDS: each row of YtcdccjagknlmpaaGreatDoorRows.lean that lists a variable, with what it lists TIED to the program's text (the seventh form; the later family's looks); each row that meets fmt, with fmt's text TOLD by the authors' own Lean function (tested against real Go, not proved from fmt's source: count such statements apart). THE CARD IS WHAT COUNTS. Prove the row's statement (the work); the ties are given (YtcdccjagknlmpaaGreatDoorTie.lean); close each card by the builder's one call (the guide's Derived/Test/ToyasCard.lean, 'card_holds'). Laid BY PROGRAM, IN A SANDBOX (cutbox-door.mjs). By AI agents, Wed Nov 11 2026. No macro, syntax, notation, axiom, sorry.
-/
import Derived.Test.YtcdccjagknlmpaaGreatDoorRows
import GoSem.ClaimSeven
namespace Go.Proofs.YtcdccjagknlmpaaGreatDoor
namespace Rows

/-- THE TIED CARD OF 'dioramalaw13.CountsLimits'. -/
def countsLimitsCard : Claim7 := { stood := { row := countsLimitsRow, standIns := [], harness := (true, "8592dc8874ad7e78c9976725d9a1508cea29dc5c0b4f2f3cf104d52cb2259c09"), looks := true }, kinds := [], alts := [], laidByText := true, laidKinds := [.data, .data, .data, .widerDeep, .funcs], laidTests := true, laidLooks := .later }
def CountsLimitsCardSaid : Prop := Claim7.holds Tryz.pinned (.plain (OpenSpec.ofChange countsLimitsSpec)) countsLimitsCard

/-- THE TIED CARD OF 'dioramalaw13.CountsHolds'. -/
def countsHoldsCard : Claim7 := { stood := { row := countsHoldsRow, standIns := [], harness := (true, "8592dc8874ad7e78c9976725d9a1508cea29dc5c0b4f2f3cf104d52cb2259c09"), looks := true }, kinds := [], alts := [], laidByText := true, laidKinds := [.data, .data, .data, .widerDeep, .funcs], laidTests := true, laidLooks := .later }
def CountsHoldsCardSaid : Prop := Claim7.holds Tryz.pinned (.plain (OpenSpec.ofChange countsHoldsSpec)) countsHoldsCard

/-- THE TIED CARD OF 'dioramalaw13.CountsPlans'. -/
def countsPlansCard : Claim7 := { stood := { row := countsPlansRow, standIns := [], harness := (true, "8592dc8874ad7e78c9976725d9a1508cea29dc5c0b4f2f3cf104d52cb2259c09"), looks := true }, kinds := [], alts := [], laidByText := true, laidKinds := [.data, .data, .data, .widerDeep, .funcs], laidTests := true, laidLooks := .later }
def CountsPlansCardSaid : Prop := Claim7.holds Tryz.pinned (.plain (OpenSpec.ofChange countsPlansSpec)) countsPlansCard

/-- THE TIED CARD OF 'dioramalaw13.CountsClashes'. -/
def countsClashesCard : Claim7 := { stood := { row := countsClashesRow, standIns := [], harness := (true, "8592dc8874ad7e78c9976725d9a1508cea29dc5c0b4f2f3cf104d52cb2259c09"), looks := true }, kinds := [], alts := [], laidByText := true, laidKinds := [.data, .data, .data, .widerDeep, .funcs], laidTests := true, laidLooks := .later }
def CountsClashesCardSaid : Prop := Claim7.holds Tryz.pinned (.plain (OpenSpec.ofChange countsClashesSpec)) countsClashesCard

/-- THE TIED CARD OF 'dioramalaw13.CountsNearest'. -/
def countsNearestCard : Claim7 := { stood := { row := countsNearestRow, standIns := [], harness := (true, "8592dc8874ad7e78c9976725d9a1508cea29dc5c0b4f2f3cf104d52cb2259c09"), looks := true }, kinds := [], alts := [], laidByText := true, laidKinds := [.data, .data, .data, .widerDeep, .funcs], laidTests := true, laidLooks := .later }
def CountsNearestCardSaid : Prop := Claim7.holds Tryz.pinned (.plain (OpenSpec.ofChange countsNearestSpec)) countsNearestCard

/-- THE TIED CARD OF 'dioramalaw13.CountsSmallest'. -/
def countsSmallestCard : Claim7 := { stood := { row := countsSmallestRow, standIns := [], harness := (true, "8592dc8874ad7e78c9976725d9a1508cea29dc5c0b4f2f3cf104d52cb2259c09"), looks := true }, kinds := [], alts := [], laidByText := true, laidKinds := [.data, .data, .data, .widerDeep, .funcs], laidTests := true, laidLooks := .later }
def CountsSmallestCardSaid : Prop := Claim7.holds Tryz.pinned (.plain (OpenSpec.ofChange countsSmallestSpec)) countsSmallestCard

/-- THE TIED CARD OF 'dioramalaw13.CountsBoth'. -/
def countsBothCard : Claim7 := { stood := { row := countsBothRow, standIns := [], harness := (true, "8592dc8874ad7e78c9976725d9a1508cea29dc5c0b4f2f3cf104d52cb2259c09"), looks := true }, kinds := [], alts := [], laidByText := true, laidKinds := [.data, .data, .data, .widerDeep, .funcs], laidTests := true, laidLooks := .later }
def CountsBothCardSaid : Prop := Claim7.holds Tryz.pinned (.plain (OpenSpec.ofChange countsBothSpec)) countsBothCard

/-- THE SECOND FORM's CARD OF 'dioramalaw13.CountsLimits'. -/
def countsLimitsUptoCard : Claim7 := { stood := { row := countsLimitsUptoRow, standIns := [], harness := (true, "8592dc8874ad7e78c9976725d9a1508cea29dc5c0b4f2f3cf104d52cb2259c09"), looks := true }, kinds := [], alts := [], laidByText := true, laidKinds := [.data, .data, .data, .widerDeep, .funcs], laidTests := true, laidLooks := .later }
def CountsLimitsUptoCardSaid : Prop := Claim7.holds Tryz.pinned (.plain (OpenSpec.upto countsLimitsSpec)) countsLimitsUptoCard

/-- THE SECOND FORM's CARD OF 'dioramalaw13.CountsHolds'. -/
def countsHoldsUptoCard : Claim7 := { stood := { row := countsHoldsUptoRow, standIns := [], harness := (true, "8592dc8874ad7e78c9976725d9a1508cea29dc5c0b4f2f3cf104d52cb2259c09"), looks := true }, kinds := [], alts := [], laidByText := true, laidKinds := [.data, .data, .data, .widerDeep, .funcs], laidTests := true, laidLooks := .later }
def CountsHoldsUptoCardSaid : Prop := Claim7.holds Tryz.pinned (.plain (OpenSpec.upto countsHoldsSpec)) countsHoldsUptoCard

/-- THE SECOND FORM's CARD OF 'dioramalaw13.CountsPlans'. -/
def countsPlansUptoCard : Claim7 := { stood := { row := countsPlansUptoRow, standIns := [], harness := (true, "8592dc8874ad7e78c9976725d9a1508cea29dc5c0b4f2f3cf104d52cb2259c09"), looks := true }, kinds := [], alts := [], laidByText := true, laidKinds := [.data, .data, .data, .widerDeep, .funcs], laidTests := true, laidLooks := .later }
def CountsPlansUptoCardSaid : Prop := Claim7.holds Tryz.pinned (.plain (OpenSpec.upto countsPlansSpec)) countsPlansUptoCard

/-- THE SECOND FORM's CARD OF 'dioramalaw13.CountsClashes'. -/
def countsClashesUptoCard : Claim7 := { stood := { row := countsClashesUptoRow, standIns := [], harness := (true, "8592dc8874ad7e78c9976725d9a1508cea29dc5c0b4f2f3cf104d52cb2259c09"), looks := true }, kinds := [], alts := [], laidByText := true, laidKinds := [.data, .data, .data, .widerDeep, .funcs], laidTests := true, laidLooks := .later }
def CountsClashesUptoCardSaid : Prop := Claim7.holds Tryz.pinned (.plain (OpenSpec.upto countsClashesSpec)) countsClashesUptoCard

/-- THE SECOND FORM's CARD OF 'dioramalaw13.CountsNearest'. -/
def countsNearestUptoCard : Claim7 := { stood := { row := countsNearestUptoRow, standIns := [], harness := (true, "8592dc8874ad7e78c9976725d9a1508cea29dc5c0b4f2f3cf104d52cb2259c09"), looks := true }, kinds := [], alts := [], laidByText := true, laidKinds := [.data, .data, .data, .widerDeep, .funcs], laidTests := true, laidLooks := .later }
def CountsNearestUptoCardSaid : Prop := Claim7.holds Tryz.pinned (.plain (OpenSpec.upto countsNearestSpec)) countsNearestUptoCard

/-- THE SECOND FORM's CARD OF 'dioramalaw13.CountsSmallest'. -/
def countsSmallestUptoCard : Claim7 := { stood := { row := countsSmallestUptoRow, standIns := [], harness := (true, "8592dc8874ad7e78c9976725d9a1508cea29dc5c0b4f2f3cf104d52cb2259c09"), looks := true }, kinds := [], alts := [], laidByText := true, laidKinds := [.data, .data, .data, .widerDeep, .funcs], laidTests := true, laidLooks := .later }
def CountsSmallestUptoCardSaid : Prop := Claim7.holds Tryz.pinned (.plain (OpenSpec.upto countsSmallestSpec)) countsSmallestUptoCard

/-- THE SECOND FORM's CARD OF 'dioramalaw13.CountsBoth'. -/
def countsBothUptoCard : Claim7 := { stood := { row := countsBothUptoRow, standIns := [], harness := (true, "8592dc8874ad7e78c9976725d9a1508cea29dc5c0b4f2f3cf104d52cb2259c09"), looks := true }, kinds := [], alts := [], laidByText := true, laidKinds := [.data, .data, .data, .widerDeep, .funcs], laidTests := true, laidLooks := .later }
def CountsBothUptoCardSaid : Prop := Claim7.holds Tryz.pinned (.plain (OpenSpec.upto countsBothSpec)) countsBothUptoCard
end Rows
end Go.Proofs.YtcdccjagknlmpaaGreatDoor
