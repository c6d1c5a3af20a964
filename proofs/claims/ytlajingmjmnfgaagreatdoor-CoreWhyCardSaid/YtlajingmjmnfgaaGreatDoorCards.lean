/-
  DERIVED. GIVEN WITH THE SEED: THE CARDS: each row of YtlajingmjmnfgaaGreatDoorRows.lean that lists a variable, with what it lists TIED to the program's text (the seventh form; the later family's looks); each row that meets fmt, with fmt's text TOLD by the authors' own Lean function (tested against real Go, not proved from fmt's source: count such statements apart). THE CARD IS WHAT COUNTS. Prove the row's statement (the work); the ties are given (YtlajingmjmnfgaaGreatDoorTie.lean); close each card by the builder's one call (the guide's Derived/Test/ToyasCard.lean, 'card_holds'). Laid BY PROGRAM, IN A SANDBOX (cutbox-door.mjs). By AI agents, Wed Nov 11 2026. No macro, syntax, notation, axiom, sorry.
-/
import Derived.Test.YtlajingmjmnfgaaGreatDoorRows
import GoSem.ClaimSeven
namespace Go.Proofs.YtlajingmjmnfgaaGreatDoor
namespace Rows

/-- THE TIED CARD OF 'dioramalaw15.CoreWhy'. -/
def coreWhyCard : Claim7 := { stood := { row := coreWhyRow, standIns := [], harness := (true, "b8d1129402c16e841bfb6af88fac4df4cc035dd9ac26a0a7708be56264c6b18e"), looks := true }, kinds := [], alts := [], laidByText := true, laidKinds := [.data, .data, .data, .widerDeep, .funcs], laidTests := true, laidLooks := .later }
def CoreWhyCardSaid : Prop := Claim7.holds Tryz.pinned (.plain (OpenSpec.ofChange coreWhySpec)) coreWhyCard

/-- THE TIED CARD OF 'dioramalaw15.CoreChecks'. -/
def coreChecksCard : Claim7 := { stood := { row := coreChecksRow, standIns := [], harness := (true, "b8d1129402c16e841bfb6af88fac4df4cc035dd9ac26a0a7708be56264c6b18e"), looks := true }, kinds := [], alts := [], laidByText := true, laidKinds := [.data, .data, .data, .widerDeep, .funcs], laidTests := true, laidLooks := .later }
def CoreChecksCardSaid : Prop := Claim7.holds Tryz.pinned (.plain (OpenSpec.ofChange coreChecksSpec)) coreChecksCard

/-- THE TIED CARD OF 'dioramalaw15.CoreRecords'. -/
def coreRecordsCard : Claim7 := { stood := { row := coreRecordsRow, standIns := [], harness := (true, "b8d1129402c16e841bfb6af88fac4df4cc035dd9ac26a0a7708be56264c6b18e"), looks := true }, kinds := [], alts := [], laidByText := true, laidKinds := [.data, .data, .data, .widerDeep, .funcs], laidTests := true, laidLooks := .later }
def CoreRecordsCardSaid : Prop := Claim7.holds Tryz.pinned (.plain (OpenSpec.ofChange coreRecordsSpec)) coreRecordsCard

/-- THE TIED CARD OF 'dioramalaw15.CoreNames'. -/
def coreNamesCard : Claim7 := { stood := { row := coreNamesRow, standIns := [], harness := (true, "b8d1129402c16e841bfb6af88fac4df4cc035dd9ac26a0a7708be56264c6b18e"), looks := true }, kinds := [], alts := [], laidByText := true, laidKinds := [.data, .data, .data, .widerDeep, .funcs], laidTests := true, laidLooks := .later }
def CoreNamesCardSaid : Prop := Claim7.holds Tryz.pinned (.plain (OpenSpec.ofChange coreNamesSpec)) coreNamesCard

/-- THE TIED CARD OF 'dioramalaw15.CorePlans'. -/
def corePlansCard : Claim7 := { stood := { row := corePlansRow, standIns := [], harness := (true, "b8d1129402c16e841bfb6af88fac4df4cc035dd9ac26a0a7708be56264c6b18e"), looks := true }, kinds := [], alts := [], laidByText := true, laidKinds := [.data, .data, .data, .widerDeep, .funcs], laidTests := true, laidLooks := .later }
def CorePlansCardSaid : Prop := Claim7.holds Tryz.pinned (.plain (OpenSpec.ofChange corePlansSpec)) corePlansCard

/-- THE SECOND FORM's CARD OF 'dioramalaw15.CoreWhy'. -/
def coreWhyUptoCard : Claim7 := { stood := { row := coreWhyUptoRow, standIns := [], harness := (true, "b8d1129402c16e841bfb6af88fac4df4cc035dd9ac26a0a7708be56264c6b18e"), looks := true }, kinds := [], alts := [], laidByText := true, laidKinds := [.data, .data, .data, .widerDeep, .funcs], laidTests := true, laidLooks := .later }
def CoreWhyUptoCardSaid : Prop := Claim7.holds Tryz.pinned (.plain (OpenSpec.upto coreWhySpec)) coreWhyUptoCard

/-- THE SECOND FORM's CARD OF 'dioramalaw15.CoreChecks'. -/
def coreChecksUptoCard : Claim7 := { stood := { row := coreChecksUptoRow, standIns := [], harness := (true, "b8d1129402c16e841bfb6af88fac4df4cc035dd9ac26a0a7708be56264c6b18e"), looks := true }, kinds := [], alts := [], laidByText := true, laidKinds := [.data, .data, .data, .widerDeep, .funcs], laidTests := true, laidLooks := .later }
def CoreChecksUptoCardSaid : Prop := Claim7.holds Tryz.pinned (.plain (OpenSpec.upto coreChecksSpec)) coreChecksUptoCard

/-- THE SECOND FORM's CARD OF 'dioramalaw15.CoreRecords'. -/
def coreRecordsUptoCard : Claim7 := { stood := { row := coreRecordsUptoRow, standIns := [], harness := (true, "b8d1129402c16e841bfb6af88fac4df4cc035dd9ac26a0a7708be56264c6b18e"), looks := true }, kinds := [], alts := [], laidByText := true, laidKinds := [.data, .data, .data, .widerDeep, .funcs], laidTests := true, laidLooks := .later }
def CoreRecordsUptoCardSaid : Prop := Claim7.holds Tryz.pinned (.plain (OpenSpec.upto coreRecordsSpec)) coreRecordsUptoCard

/-- THE SECOND FORM's CARD OF 'dioramalaw15.CoreNames'. -/
def coreNamesUptoCard : Claim7 := { stood := { row := coreNamesUptoRow, standIns := [], harness := (true, "b8d1129402c16e841bfb6af88fac4df4cc035dd9ac26a0a7708be56264c6b18e"), looks := true }, kinds := [], alts := [], laidByText := true, laidKinds := [.data, .data, .data, .widerDeep, .funcs], laidTests := true, laidLooks := .later }
def CoreNamesUptoCardSaid : Prop := Claim7.holds Tryz.pinned (.plain (OpenSpec.upto coreNamesSpec)) coreNamesUptoCard

/-- THE SECOND FORM's CARD OF 'dioramalaw15.CorePlans'. -/
def corePlansUptoCard : Claim7 := { stood := { row := corePlansUptoRow, standIns := [], harness := (true, "b8d1129402c16e841bfb6af88fac4df4cc035dd9ac26a0a7708be56264c6b18e"), looks := true }, kinds := [], alts := [], laidByText := true, laidKinds := [.data, .data, .data, .widerDeep, .funcs], laidTests := true, laidLooks := .later }
def CorePlansUptoCardSaid : Prop := Claim7.holds Tryz.pinned (.plain (OpenSpec.upto corePlansSpec)) corePlansUptoCard
end Rows
end Go.Proofs.YtlajingmjmnfgaaGreatDoor
