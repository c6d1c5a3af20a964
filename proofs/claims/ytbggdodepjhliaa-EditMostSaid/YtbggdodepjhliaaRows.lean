/-
  No cell of these rows narrows 'for every input' (looked for: loops, veiled, ifaces, maps, wideKeys, modest, calm, conditions, laid).
  DERIVED. THE GIVEN ROWS OF THIS SEAT. 3 by the template 'for every input the law returns true; each argument reads behind the call as it read before'; 0 by the template 'total and deterministic' (their statements: YtbggdodepjhliaaTotals.lean).
  GIVEN WITH THE SEED: the statements are not yours to turn. If you find one false, say at which input.
  Laid BY PROGRAM, IN A SANDBOX (cutbox-rows.mjs): the forced cells as the released guide's own fill.sh prints them over the translation 7c26da2554b82547… (all of the seat's roots in one cut). By AI agents, Wed Nov 11 2026. No macro, syntax, notation, axiom, sorry.
-/
import Derived.Test.YtbggdodepjhliaaChecked
import GoSem.Claim
import GoSem.ClaimJoined
import GoSem.ClaimMapViews
import Derived.JoinedTies
import Derived.KernelRfl
namespace Go.Proofs.Ytbggdodepjhliaa
/- THE CELL 'sum', in the pinned program and in every row, IS THE sha256 OF THE DUMP (.gsa) THAT YtbggdodepjhliaaProg.lean LOADS. Nothing in Lean hashes anything: it is a label: what it is worth is what the hold of that sum in a sandbox is worth. -/
noncomputable def Try.pinned : Pinned := { name := "ytbggdodepjhliaa", sum := "7c26da2554b82547a020cd94054e4fdbb5bde646005acdffcdada57fb34c8b6f", checked := Try.checked }
namespace Rows
def none {H : Type} : Left H := { results := [], args := [] }

/-- 'dioramalaw37.EditRefs': WHATEVER THE INPUT: true; the input reads as it did. -/
def editRefsSpec : ChangeSpec := { name := "editRefs", fn := fun _ => fun
  | [d1, d2, d3, d4, d5, d6] => { results := [.lit (.bool true)], args := [d1, d2, d3, d4, d5, d6] }
  | _ => none }
def editRefsRow : OpenClaim := { program := "ytbggdodepjhliaa", sum := "7c26da2554b82547a020cd94054e4fdbb5bde646005acdffcdada57fb34c8b6f", func := "diorama/dioramalaw37.EditRefs", spec := "editRefs", unfollowed := true, recurses := true, apart := false }
def EditRefsSaid : Prop := editRefsRow.holds Try.pinned (OpenSpec.ofChange editRefsSpec)

/-- ITS FALSE NEIGHBOUR: 'it returns false'. Refute it at one input. -/
def editRefsWrong : ChangeSpec := { name := "editRefs", fn := fun _ => fun
  | [d1, d2, d3, d4, d5, d6] => { results := [.lit (.bool false)], args := [d1, d2, d3, d4, d5, d6] }
  | _ => none }
def EditRefsWrongFalsely : Prop := editRefsRow.holds Try.pinned (OpenSpec.ofChange editRefsWrong)

/-- 'dioramalaw37.EditMost': WHATEVER THE INPUT: true; the input reads as it did. -/
def editMostSpec : ChangeSpec := { name := "editMost", fn := fun _ => fun
  | [d] => { results := [.lit (.bool true)], args := [d] }
  | _ => none }
def editMostRow : OpenClaim := { program := "ytbggdodepjhliaa", sum := "7c26da2554b82547a020cd94054e4fdbb5bde646005acdffcdada57fb34c8b6f", func := "diorama/dioramalaw37.EditMost", spec := "editMost", unfollowed := true, recurses := true, apart := false }
def EditMostSaid : Prop := editMostRow.holds Try.pinned (OpenSpec.ofChange editMostSpec)

/-- ITS FALSE NEIGHBOUR: 'it returns false'. Refute it at one input. -/
def editMostWrong : ChangeSpec := { name := "editMost", fn := fun _ => fun
  | [d] => { results := [.lit (.bool false)], args := [d] }
  | _ => none }
def EditMostWrongFalsely : Prop := editMostRow.holds Try.pinned (OpenSpec.ofChange editMostWrong)

/-- 'dioramalaw37.EditFlow': WHATEVER THE INPUT: true; the input reads as it did. -/
def editFlowSpec : ChangeSpec := { name := "editFlow", fn := fun _ => fun
  | [d] => { results := [.lit (.bool true)], args := [d] }
  | _ => none }
def editFlowRow : OpenClaim := { program := "ytbggdodepjhliaa", sum := "7c26da2554b82547a020cd94054e4fdbb5bde646005acdffcdada57fb34c8b6f", func := "diorama/dioramalaw37.EditFlow", spec := "editFlow", unfollowed := true, recurses := true, apart := false }
def EditFlowSaid : Prop := editFlowRow.holds Try.pinned (OpenSpec.ofChange editFlowSpec)

/-- ITS FALSE NEIGHBOUR: 'it returns false'. Refute it at one input. -/
def editFlowWrong : ChangeSpec := { name := "editFlow", fn := fun _ => fun
  | [d] => { results := [.lit (.bool false)], args := [d] }
  | _ => none }
def EditFlowWrongFalsely : Prop := editFlowRow.holds Try.pinned (OpenSpec.ofChange editFlowWrong)

/- THE SECOND FORM. 'bulk': how many values and letters a reading holds, each counted each time it is reached (what is shared counts as often as it is met; a slice's spare places count too). A statement '..UptoSaid' is the law's where the arguments, and the package variables that the reading takes, are together of bulk at most 1048576: NARROWER than '..Said'. Prove '..Said' where nothing that the law and all that it calls make is longer than what came in: it says more and counts as full. Else prove '..UptoSaid'. A law counts once. -/
mutual
def uptoBulk {H : Type} : DataW H → Nat
  | .lit (.string bytes) => bytes.length + 1
  | .lit _ => 1
  | .nil => 1
  | .ptr d => uptoBulk d + 1
  | .slice elems spare => uptoBulkAll elems + uptoBulkAll spare + 1
  | .agg parts => uptoBulkAll parts + 1
  | .iface _ d => uptoBulk d + 1
  | .map entries => uptoBulkEntries entries + 1
  | .held _ => 1
def uptoBulkAll {H : Type} : List (DataW H) → Nat
  | [] => 0
  | d :: r => uptoBulk d + uptoBulkAll r
def uptoBulkEntries {H : Type} : List (Lit × DataW H) → Nat
  | [] => 0
  | x :: r => uptoBulkEntry x + uptoBulkEntries r
def uptoBulkEntry {H : Type} : Lit × DataW H → Nat
  | (.string bytes, d) => bytes.length + uptoBulk d + 1
  | (_, d) => uptoBulk d + 1
 end
def uptoSmall : (H : Type) → List (DataW H) → Bool := fun _ ds => decide (uptoBulkAll ds ≤ 1048576)
def OpenSpec.upto (s : _root_.Go.ChangeSpec) : _root_.Go.OpenSpec := { _root_.Go.OpenSpec.ofChange s with cond := some uptoSmall }

/-- 'dioramalaw37.EditRefs', WHERE WHAT IT READS IS OF BULK AT MOST 1048576: true; the input reads as it did. -/
def editRefsUptoRow : OpenClaim := { program := "ytbggdodepjhliaa", sum := "7c26da2554b82547a020cd94054e4fdbb5bde646005acdffcdada57fb34c8b6f", func := "diorama/dioramalaw37.EditRefs", spec := "editRefs", unfollowed := true, recurses := true, apart := false, narrowed := true }
def EditRefsUptoSaid : Prop := editRefsUptoRow.holds Try.pinned (OpenSpec.upto editRefsSpec)

/-- 'dioramalaw37.EditMost', WHERE WHAT IT READS IS OF BULK AT MOST 1048576: true; the input reads as it did. -/
def editMostUptoRow : OpenClaim := { program := "ytbggdodepjhliaa", sum := "7c26da2554b82547a020cd94054e4fdbb5bde646005acdffcdada57fb34c8b6f", func := "diorama/dioramalaw37.EditMost", spec := "editMost", unfollowed := true, recurses := true, apart := false, narrowed := true }
def EditMostUptoSaid : Prop := editMostUptoRow.holds Try.pinned (OpenSpec.upto editMostSpec)

/-- 'dioramalaw37.EditFlow', WHERE WHAT IT READS IS OF BULK AT MOST 1048576: true; the input reads as it did. -/
def editFlowUptoRow : OpenClaim := { program := "ytbggdodepjhliaa", sum := "7c26da2554b82547a020cd94054e4fdbb5bde646005acdffcdada57fb34c8b6f", func := "diorama/dioramalaw37.EditFlow", spec := "editFlow", unfollowed := true, recurses := true, apart := false, narrowed := true }
def EditFlowUptoSaid : Prop := editFlowUptoRow.holds Try.pinned (OpenSpec.upto editFlowSpec)

end Rows
end Go.Proofs.Ytbggdodepjhliaa
