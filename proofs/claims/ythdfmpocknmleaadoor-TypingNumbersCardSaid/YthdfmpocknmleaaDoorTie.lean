/-
  DERIVED. GIVEN WITH THE SEED: THE PROGRAM's TIES (one call each: nine closed facts by the kernel) AND EACH ROW's TIE, after the 31st guide's Derived/Test/Toyas{Tie, Card}.lean. No idea stands in it: it is a product of the set-up. Laid BY PROGRAM, IN A SANDBOX (cutbox-door.mjs). By AI agents, Wed Nov 11 2026. No macro, syntax, notation, axiom, sorry.
-/
import Derived.Test.YthdfmpocknmleaaDoorRows
import Derived.LaidByTextLater
import Derived.SevenTiedAt
import Derived.LaidSub
import Derived.LaidOnce
namespace Go.Proofs.YthdfmpocknmleaaDoor
open Go
set_option maxRecDepth 100000
theorem seatTie1 : Tryd.prog.laidByTextLater [("math/bits.deBruijn32tab", Rows.laid_math_bits_deBruijn32tab), ("math/bits.deBruijn64tab", Rows.laid_math_bits_deBruijn64tab), ("internal/strconv.uint64pow10", Rows.laid_internal_strconv_uint64pow10), ("diorama/schema.words", Rows.laid_diorama_schema_words), ("diorama/typing.checks", Rows.laid_diorama_typing_checks)] [.data, .data, .data, .widerDeep, .funcs] true :=
  Program.laidByTextLater_by_one 76 8 65 (by kernel_rfl) (by kernel_rfl) (by kernel_rfl) (by kernel_rfl) (by kernel_rfl) (by kernel_rfl) (fun _ _ => by kernel_rfl)
theorem noOwnUnsafe : Tryd.pinned.checked.prog.headLifts.contains "ownunsafe" = false := by kernel_rfl
theorem tie : Tryd.prog.laidByTextLater [("math/bits.deBruijn32tab", Rows.laid_math_bits_deBruijn32tab), ("math/bits.deBruijn64tab", Rows.laid_math_bits_deBruijn64tab), ("internal/strconv.uint64pow10", Rows.laid_internal_strconv_uint64pow10), ("diorama/schema.words", Rows.laid_diorama_schema_words), ("diorama/typing.checks", Rows.laid_diorama_typing_checks)] [.data, .data, .data, .widerDeep, .funcs] true :=
  Program.laidByTextLater.sub seatTie1 ["math/bits.deBruijn32tab", "math/bits.deBruijn64tab", "internal/strconv.uint64pow10", "diorama/schema.words", "diorama/typing.checks"] (by kernel_rfl) (by kernel_rfl)
theorem typingRenamed_row_tie : Rows.typingRenamedRow.laidByTextAt .later Tryd.pinned [.data, .data, .data, .widerDeep, .funcs] true :=
  OpenClaim.laidByTextAt_later rfl rfl tie noOwnUnsafe
theorem typingFewer_row_tie : Rows.typingFewerRow.laidByTextAt .later Tryd.pinned [.data, .data, .data, .widerDeep, .funcs] true :=
  OpenClaim.laidByTextAt_later rfl rfl tie noOwnUnsafe
theorem typingNumbers_row_tie : Rows.typingNumbersRow.laidByTextAt .later Tryd.pinned [.data, .data, .data, .widerDeep, .funcs] true :=
  OpenClaim.laidByTextAt_later rfl rfl tie noOwnUnsafe
theorem typingRenamedUpto_row_tie : Rows.typingRenamedUptoRow.laidByTextAt .later Tryd.pinned [.data, .data, .data, .widerDeep, .funcs] true :=
  OpenClaim.laidByTextAt_later rfl rfl tie noOwnUnsafe
theorem typingFewerUpto_row_tie : Rows.typingFewerUptoRow.laidByTextAt .later Tryd.pinned [.data, .data, .data, .widerDeep, .funcs] true :=
  OpenClaim.laidByTextAt_later rfl rfl tie noOwnUnsafe
theorem typingNumbersUpto_row_tie : Rows.typingNumbersUptoRow.laidByTextAt .later Tryd.pinned [.data, .data, .data, .widerDeep, .funcs] true :=
  OpenClaim.laidByTextAt_later rfl rfl tie noOwnUnsafe
end Go.Proofs.YthdfmpocknmleaaDoor
