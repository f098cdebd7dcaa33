/-
  No cell of these rows narrows 'for every input' (looked for: loops, veiled, ifaces, maps, wideKeys, modest, calm, conditions, laid).
  DERIVED. THE GIVEN ROWS OF THIS SEAT. 11 by the template 'for every input the law returns true; each argument reads behind the call as it read before'; 0 by the template 'total and deterministic' (their statements: YtmmpnigbfiebbaaTotals.lean).
  GIVEN WITH THE SEED: the statements are not yours to turn. If you find one false, say at which input.
  Laid BY PROGRAM, IN A SANDBOX (cutbox-rows.mjs): the forced cells as the released guide's own fill.sh prints them over the translation b4a871150033427f… (all of the seat's roots in one cut). By AI agents, Wed Nov 11 2026. No macro, syntax, notation, axiom, sorry.
-/
import Derived.Test.YtmmpnigbfiebbaaChecked
import GoSem.Claim
import GoSem.ClaimJoined
import GoSem.ClaimMapViews
import Derived.JoinedTies
import Derived.KernelRfl
namespace Go.Proofs.Ytmmpnigbfiebbaa
/- THE CELL 'sum', in the pinned program and in every row, IS THE sha256 OF THE DUMP (.gsa) THAT YtmmpnigbfiebbaaProg.lean LOADS. Nothing in Lean hashes anything: it is a label: what it is worth is what the hold of that sum in a sandbox is worth. -/
noncomputable def Try.pinned : Pinned := { name := "ytmmpnigbfiebbaa", sum := "b4a871150033427ff9afaa01851d025b4cb9176ed5ad40633882b9e435c1fc89", checked := Try.checked }
namespace Rows
def none {H : Type} : Left H := { results := [], args := [] }

/-- 'laws.FnExactInverseEdit': WHATEVER THE INPUT: true; the input reads as it did. -/
def fnExactInverseEditSpec : ChangeSpec := { name := "fnExactInverseEdit", fn := fun _ => fun
  | [d] => { results := [.lit (.bool true)], args := [d] }
  | _ => none }
def fnExactInverseEditRow : OpenClaim := { program := "ytmmpnigbfiebbaa", sum := "b4a871150033427ff9afaa01851d025b4cb9176ed5ad40633882b9e435c1fc89", func := "loop.example/g01008/laws.FnExactInverseEdit", spec := "fnExactInverseEdit", inPlace := ["internal/bytealg.IndexByteString"], apart := false }
def FnExactInverseEditSaid : Prop := fnExactInverseEditRow.holds Try.pinned (OpenSpec.ofChange fnExactInverseEditSpec)

/-- ITS FALSE NEIGHBOUR: 'it returns false'. Refute it at one input. -/
def fnExactInverseEditWrong : ChangeSpec := { name := "fnExactInverseEdit", fn := fun _ => fun
  | [d] => { results := [.lit (.bool false)], args := [d] }
  | _ => none }
def FnExactInverseEditWrongFalsely : Prop := fnExactInverseEditRow.holds Try.pinned (OpenSpec.ofChange fnExactInverseEditWrong)

/-- 'laws.FnExactStartDesk': WHATEVER THE INPUT: true; the input reads as it did. -/
def fnExactStartDeskSpec : ChangeSpec := { name := "fnExactStartDesk", fn := fun _ => fun
  | [d] => { results := [.lit (.bool true)], args := [d] }
  | _ => none }
def fnExactStartDeskRow : OpenClaim := { program := "ytmmpnigbfiebbaa", sum := "b4a871150033427ff9afaa01851d025b4cb9176ed5ad40633882b9e435c1fc89", func := "loop.example/g01008/laws.FnExactStartDesk", spec := "fnExactStartDesk", inPlace := ["internal/bytealg.IndexByteString"], unfollowed := true, recurses := true, apart := false }
def FnExactStartDeskSaid : Prop := fnExactStartDeskRow.holds Try.pinned (OpenSpec.ofChange fnExactStartDeskSpec)

/-- ITS FALSE NEIGHBOUR: 'it returns false'. Refute it at one input. -/
def fnExactStartDeskWrong : ChangeSpec := { name := "fnExactStartDesk", fn := fun _ => fun
  | [d] => { results := [.lit (.bool false)], args := [d] }
  | _ => none }
def FnExactStartDeskWrongFalsely : Prop := fnExactStartDeskRow.holds Try.pinned (OpenSpec.ofChange fnExactStartDeskWrong)

/-- 'laws.FnExactIsDesk': WHATEVER THE INPUT: true; the input reads as it did. -/
def fnExactIsDeskSpec : ChangeSpec := { name := "fnExactIsDesk", fn := fun _ => fun
  | [d] => { results := [.lit (.bool true)], args := [d] }
  | _ => none }
def fnExactIsDeskRow : OpenClaim := { program := "ytmmpnigbfiebbaa", sum := "b4a871150033427ff9afaa01851d025b4cb9176ed5ad40633882b9e435c1fc89", func := "loop.example/g01008/laws.FnExactIsDesk", spec := "fnExactIsDesk", inPlace := ["internal/bytealg.IndexByteString", "slices.overlaps[string]"], unfollowed := true, recurses := true, apart := false }
def FnExactIsDeskSaid : Prop := fnExactIsDeskRow.holds Try.pinned (OpenSpec.ofChange fnExactIsDeskSpec)

/-- ITS FALSE NEIGHBOUR: 'it returns false'. Refute it at one input. -/
def fnExactIsDeskWrong : ChangeSpec := { name := "fnExactIsDesk", fn := fun _ => fun
  | [d] => { results := [.lit (.bool false)], args := [d] }
  | _ => none }
def FnExactIsDeskWrongFalsely : Prop := fnExactIsDeskRow.holds Try.pinned (OpenSpec.ofChange fnExactIsDeskWrong)

/-- 'laws.FnExactItemsAfter': WHATEVER THE INPUT: true; the input reads as it did. -/
def fnExactItemsAfterSpec : ChangeSpec := { name := "fnExactItemsAfter", fn := fun _ => fun
  | [d1, d2] => { results := [.lit (.bool true)], args := [d1, d2] }
  | _ => none }
def fnExactItemsAfterRow : OpenClaim := { program := "ytmmpnigbfiebbaa", sum := "b4a871150033427ff9afaa01851d025b4cb9176ed5ad40633882b9e435c1fc89", func := "loop.example/g01008/laws.FnExactItemsAfter", spec := "fnExactItemsAfter", inPlace := ["internal/bytealg.IndexByteString", "slices.overlaps[string]"], unfollowed := true, recurses := true, apart := false }
def FnExactItemsAfterSaid : Prop := fnExactItemsAfterRow.holds Try.pinned (OpenSpec.ofChange fnExactItemsAfterSpec)

/-- ITS FALSE NEIGHBOUR: 'it returns false'. Refute it at one input. -/
def fnExactItemsAfterWrong : ChangeSpec := { name := "fnExactItemsAfter", fn := fun _ => fun
  | [d1, d2] => { results := [.lit (.bool false)], args := [d1, d2] }
  | _ => none }
def FnExactItemsAfterWrongFalsely : Prop := fnExactItemsAfterRow.holds Try.pinned (OpenSpec.ofChange fnExactItemsAfterWrong)

/-- 'laws.FnExactItemsNow': WHATEVER THE INPUT: true; the input reads as it did. -/
def fnExactItemsNowSpec : ChangeSpec := { name := "fnExactItemsNow", fn := fun _ => fun
  | [d] => { results := [.lit (.bool true)], args := [d] }
  | _ => none }
def fnExactItemsNowRow : OpenClaim := { program := "ytmmpnigbfiebbaa", sum := "b4a871150033427ff9afaa01851d025b4cb9176ed5ad40633882b9e435c1fc89", func := "loop.example/g01008/laws.FnExactItemsNow", spec := "fnExactItemsNow", inPlace := ["internal/bytealg.IndexByteString", "slices.overlaps[string]"], unfollowed := true, recurses := true, apart := false }
def FnExactItemsNowSaid : Prop := fnExactItemsNowRow.holds Try.pinned (OpenSpec.ofChange fnExactItemsNowSpec)

/-- ITS FALSE NEIGHBOUR: 'it returns false'. Refute it at one input. -/
def fnExactItemsNowWrong : ChangeSpec := { name := "fnExactItemsNow", fn := fun _ => fun
  | [d] => { results := [.lit (.bool false)], args := [d] }
  | _ => none }
def FnExactItemsNowWrongFalsely : Prop := fnExactItemsNowRow.holds Try.pinned (OpenSpec.ofChange fnExactItemsNowWrong)

/-- 'laws.FnExactRedoEdit': WHATEVER THE INPUT: true; the input reads as it did. -/
def fnExactRedoEditSpec : ChangeSpec := { name := "fnExactRedoEdit", fn := fun _ => fun
  | [d] => { results := [.lit (.bool true)], args := [d] }
  | _ => none }
def fnExactRedoEditRow : OpenClaim := { program := "ytmmpnigbfiebbaa", sum := "b4a871150033427ff9afaa01851d025b4cb9176ed5ad40633882b9e435c1fc89", func := "loop.example/g01008/laws.FnExactRedoEdit", spec := "fnExactRedoEdit", inPlace := ["internal/bytealg.IndexByteString", "slices.overlaps[string]"], unfollowed := true, recurses := true, apart := false }
def FnExactRedoEditSaid : Prop := fnExactRedoEditRow.holds Try.pinned (OpenSpec.ofChange fnExactRedoEditSpec)

/-- ITS FALSE NEIGHBOUR: 'it returns false'. Refute it at one input. -/
def fnExactRedoEditWrong : ChangeSpec := { name := "fnExactRedoEdit", fn := fun _ => fun
  | [d] => { results := [.lit (.bool false)], args := [d] }
  | _ => none }
def FnExactRedoEditWrongFalsely : Prop := fnExactRedoEditRow.holds Try.pinned (OpenSpec.ofChange fnExactRedoEditWrong)

/-- 'laws.FnExactUndoEdit': WHATEVER THE INPUT: true; the input reads as it did. -/
def fnExactUndoEditSpec : ChangeSpec := { name := "fnExactUndoEdit", fn := fun _ => fun
  | [d] => { results := [.lit (.bool true)], args := [d] }
  | _ => none }
def fnExactUndoEditRow : OpenClaim := { program := "ytmmpnigbfiebbaa", sum := "b4a871150033427ff9afaa01851d025b4cb9176ed5ad40633882b9e435c1fc89", func := "loop.example/g01008/laws.FnExactUndoEdit", spec := "fnExactUndoEdit", inPlace := ["internal/bytealg.IndexByteString", "slices.overlaps[string]"], unfollowed := true, recurses := true, apart := false }
def FnExactUndoEditSaid : Prop := fnExactUndoEditRow.holds Try.pinned (OpenSpec.ofChange fnExactUndoEditSpec)

/-- ITS FALSE NEIGHBOUR: 'it returns false'. Refute it at one input. -/
def fnExactUndoEditWrong : ChangeSpec := { name := "fnExactUndoEdit", fn := fun _ => fun
  | [d] => { results := [.lit (.bool false)], args := [d] }
  | _ => none }
def FnExactUndoEditWrongFalsely : Prop := fnExactUndoEditRow.holds Try.pinned (OpenSpec.ofChange fnExactUndoEditWrong)

/-- 'laws.FnExactForgetEdits': WHATEVER THE INPUT: true; the input reads as it did. -/
def fnExactForgetEditsSpec : ChangeSpec := { name := "fnExactForgetEdits", fn := fun _ => fun
  | [d1, d2] => { results := [.lit (.bool true)], args := [d1, d2] }
  | _ => none }
def fnExactForgetEditsRow : OpenClaim := { program := "ytmmpnigbfiebbaa", sum := "b4a871150033427ff9afaa01851d025b4cb9176ed5ad40633882b9e435c1fc89", func := "loop.example/g01008/laws.FnExactForgetEdits", spec := "fnExactForgetEdits", inPlace := ["internal/bytealg.IndexByteString", "slices.overlaps[string]"], unfollowed := true, recurses := true, apart := false }
def FnExactForgetEditsSaid : Prop := fnExactForgetEditsRow.holds Try.pinned (OpenSpec.ofChange fnExactForgetEditsSpec)

/-- ITS FALSE NEIGHBOUR: 'it returns false'. Refute it at one input. -/
def fnExactForgetEditsWrong : ChangeSpec := { name := "fnExactForgetEdits", fn := fun _ => fun
  | [d1, d2] => { results := [.lit (.bool false)], args := [d1, d2] }
  | _ => none }
def FnExactForgetEditsWrongFalsely : Prop := fnExactForgetEditsRow.holds Try.pinned (OpenSpec.ofChange fnExactForgetEditsWrong)

/-- 'laws.FnExactInsertItem': WHATEVER THE INPUT: true; the input reads as it did. -/
def fnExactInsertItemSpec : ChangeSpec := { name := "fnExactInsertItem", fn := fun _ => fun
  | [d1, d2, d3] => { results := [.lit (.bool true)], args := [d1, d2, d3] }
  | _ => none }
def fnExactInsertItemRow : OpenClaim := { program := "ytmmpnigbfiebbaa", sum := "b4a871150033427ff9afaa01851d025b4cb9176ed5ad40633882b9e435c1fc89", func := "loop.example/g01008/laws.FnExactInsertItem", spec := "fnExactInsertItem", inPlace := ["internal/bytealg.IndexByteString", "slices.overlaps[string]"], unfollowed := true, recurses := true, apart := false }
def FnExactInsertItemSaid : Prop := fnExactInsertItemRow.holds Try.pinned (OpenSpec.ofChange fnExactInsertItemSpec)

/-- ITS FALSE NEIGHBOUR: 'it returns false'. Refute it at one input. -/
def fnExactInsertItemWrong : ChangeSpec := { name := "fnExactInsertItem", fn := fun _ => fun
  | [d1, d2, d3] => { results := [.lit (.bool false)], args := [d1, d2, d3] }
  | _ => none }
def FnExactInsertItemWrongFalsely : Prop := fnExactInsertItemRow.holds Try.pinned (OpenSpec.ofChange fnExactInsertItemWrong)

/-- 'laws.FnExactDeleteItem': WHATEVER THE INPUT: true; the input reads as it did. -/
def fnExactDeleteItemSpec : ChangeSpec := { name := "fnExactDeleteItem", fn := fun _ => fun
  | [d1, d2] => { results := [.lit (.bool true)], args := [d1, d2] }
  | _ => none }
def fnExactDeleteItemRow : OpenClaim := { program := "ytmmpnigbfiebbaa", sum := "b4a871150033427ff9afaa01851d025b4cb9176ed5ad40633882b9e435c1fc89", func := "loop.example/g01008/laws.FnExactDeleteItem", spec := "fnExactDeleteItem", inPlace := ["internal/bytealg.IndexByteString", "slices.overlaps[string]"], unfollowed := true, recurses := true, apart := false }
def FnExactDeleteItemSaid : Prop := fnExactDeleteItemRow.holds Try.pinned (OpenSpec.ofChange fnExactDeleteItemSpec)

/-- ITS FALSE NEIGHBOUR: 'it returns false'. Refute it at one input. -/
def fnExactDeleteItemWrong : ChangeSpec := { name := "fnExactDeleteItem", fn := fun _ => fun
  | [d1, d2] => { results := [.lit (.bool false)], args := [d1, d2] }
  | _ => none }
def FnExactDeleteItemWrongFalsely : Prop := fnExactDeleteItemRow.holds Try.pinned (OpenSpec.ofChange fnExactDeleteItemWrong)

/-- 'laws.FnExactReplaceItem': WHATEVER THE INPUT: true; the input reads as it did. -/
def fnExactReplaceItemSpec : ChangeSpec := { name := "fnExactReplaceItem", fn := fun _ => fun
  | [d1, d2, d3] => { results := [.lit (.bool true)], args := [d1, d2, d3] }
  | _ => none }
def fnExactReplaceItemRow : OpenClaim := { program := "ytmmpnigbfiebbaa", sum := "b4a871150033427ff9afaa01851d025b4cb9176ed5ad40633882b9e435c1fc89", func := "loop.example/g01008/laws.FnExactReplaceItem", spec := "fnExactReplaceItem", inPlace := ["internal/bytealg.IndexByteString", "slices.overlaps[string]"], unfollowed := true, recurses := true, apart := false }
def FnExactReplaceItemSaid : Prop := fnExactReplaceItemRow.holds Try.pinned (OpenSpec.ofChange fnExactReplaceItemSpec)

/-- ITS FALSE NEIGHBOUR: 'it returns false'. Refute it at one input. -/
def fnExactReplaceItemWrong : ChangeSpec := { name := "fnExactReplaceItem", fn := fun _ => fun
  | [d1, d2, d3] => { results := [.lit (.bool false)], args := [d1, d2, d3] }
  | _ => none }
def FnExactReplaceItemWrongFalsely : Prop := fnExactReplaceItemRow.holds Try.pinned (OpenSpec.ofChange fnExactReplaceItemWrong)

/- THE SECOND FORM. 'bulk': how many values and letters a reading holds, each counted each time it is reached (what is shared counts as often as it is met; a slice's spare places count too). A statement '..UptoSaid' is the law's where the arguments, and the package variables that the reading takes, are together of bulk at most 1048576: NARROWER than '..Said'. Prove '..Said' where nothing that the law and all that it calls make is longer than what came in: it says more and counts as full. Else prove '..UptoSaid'. A law counts once. -/
mutual
def uptoBulk {H : Type} : DataW H → Nat
  | .lit (.string bytes) => bytes.length + 1
  | .lit _ => 1
  | .nil => 1
  | .ptr d => uptoBulk d + 1
  | .slice elems spare => uptoBulkAll elems + uptoBulkAll spare + 1
  | .agg parts => uptoBulkAll parts + 1
  | .iface _ d => uptoBulk d + 1
  | .map entries => uptoBulkEntries entries + 1
  | .held _ => 1
def uptoBulkAll {H : Type} : List (DataW H) → Nat
  | [] => 0
  | d :: r => uptoBulk d + uptoBulkAll r
def uptoBulkEntries {H : Type} : List (Lit × DataW H) → Nat
  | [] => 0
  | x :: r => uptoBulkEntry x + uptoBulkEntries r
def uptoBulkEntry {H : Type} : Lit × DataW H → Nat
  | (.string bytes, d) => bytes.length + uptoBulk d + 1
  | (_, d) => uptoBulk d + 1
 end
def uptoSmall : (H : Type) → List (DataW H) → Bool := fun _ ds => decide (uptoBulkAll ds ≤ 1048576)
def OpenSpec.upto (s : _root_.Go.ChangeSpec) : _root_.Go.OpenSpec := { _root_.Go.OpenSpec.ofChange s with cond := some uptoSmall }

/-- 'laws.FnExactInverseEdit', WHERE WHAT IT READS IS OF BULK AT MOST 1048576: true; the input reads as it did. -/
def fnExactInverseEditUptoRow : OpenClaim := { program := "ytmmpnigbfiebbaa", sum := "b4a871150033427ff9afaa01851d025b4cb9176ed5ad40633882b9e435c1fc89", func := "loop.example/g01008/laws.FnExactInverseEdit", spec := "fnExactInverseEdit", inPlace := ["internal/bytealg.IndexByteString"], apart := false, narrowed := true }
def FnExactInverseEditUptoSaid : Prop := fnExactInverseEditUptoRow.holds Try.pinned (OpenSpec.upto fnExactInverseEditSpec)

/-- 'laws.FnExactStartDesk', WHERE WHAT IT READS IS OF BULK AT MOST 1048576: true; the input reads as it did. -/
def fnExactStartDeskUptoRow : OpenClaim := { program := "ytmmpnigbfiebbaa", sum := "b4a871150033427ff9afaa01851d025b4cb9176ed5ad40633882b9e435c1fc89", func := "loop.example/g01008/laws.FnExactStartDesk", spec := "fnExactStartDesk", inPlace := ["internal/bytealg.IndexByteString"], unfollowed := true, recurses := true, apart := false, narrowed := true }
def FnExactStartDeskUptoSaid : Prop := fnExactStartDeskUptoRow.holds Try.pinned (OpenSpec.upto fnExactStartDeskSpec)

/-- 'laws.FnExactIsDesk', WHERE WHAT IT READS IS OF BULK AT MOST 1048576: true; the input reads as it did. -/
def fnExactIsDeskUptoRow : OpenClaim := { program := "ytmmpnigbfiebbaa", sum := "b4a871150033427ff9afaa01851d025b4cb9176ed5ad40633882b9e435c1fc89", func := "loop.example/g01008/laws.FnExactIsDesk", spec := "fnExactIsDesk", inPlace := ["internal/bytealg.IndexByteString", "slices.overlaps[string]"], unfollowed := true, recurses := true, apart := false, narrowed := true }
def FnExactIsDeskUptoSaid : Prop := fnExactIsDeskUptoRow.holds Try.pinned (OpenSpec.upto fnExactIsDeskSpec)

/-- 'laws.FnExactItemsAfter', WHERE WHAT IT READS IS OF BULK AT MOST 1048576: true; the input reads as it did. -/
def fnExactItemsAfterUptoRow : OpenClaim := { program := "ytmmpnigbfiebbaa", sum := "b4a871150033427ff9afaa01851d025b4cb9176ed5ad40633882b9e435c1fc89", func := "loop.example/g01008/laws.FnExactItemsAfter", spec := "fnExactItemsAfter", inPlace := ["internal/bytealg.IndexByteString", "slices.overlaps[string]"], unfollowed := true, recurses := true, apart := false, narrowed := true }
def FnExactItemsAfterUptoSaid : Prop := fnExactItemsAfterUptoRow.holds Try.pinned (OpenSpec.upto fnExactItemsAfterSpec)

/-- 'laws.FnExactItemsNow', WHERE WHAT IT READS IS OF BULK AT MOST 1048576: true; the input reads as it did. -/
def fnExactItemsNowUptoRow : OpenClaim := { program := "ytmmpnigbfiebbaa", sum := "b4a871150033427ff9afaa01851d025b4cb9176ed5ad40633882b9e435c1fc89", func := "loop.example/g01008/laws.FnExactItemsNow", spec := "fnExactItemsNow", inPlace := ["internal/bytealg.IndexByteString", "slices.overlaps[string]"], unfollowed := true, recurses := true, apart := false, narrowed := true }
def FnExactItemsNowUptoSaid : Prop := fnExactItemsNowUptoRow.holds Try.pinned (OpenSpec.upto fnExactItemsNowSpec)

/-- 'laws.FnExactRedoEdit', WHERE WHAT IT READS IS OF BULK AT MOST 1048576: true; the input reads as it did. -/
def fnExactRedoEditUptoRow : OpenClaim := { program := "ytmmpnigbfiebbaa", sum := "b4a871150033427ff9afaa01851d025b4cb9176ed5ad40633882b9e435c1fc89", func := "loop.example/g01008/laws.FnExactRedoEdit", spec := "fnExactRedoEdit", inPlace := ["internal/bytealg.IndexByteString", "slices.overlaps[string]"], unfollowed := true, recurses := true, apart := false, narrowed := true }
def FnExactRedoEditUptoSaid : Prop := fnExactRedoEditUptoRow.holds Try.pinned (OpenSpec.upto fnExactRedoEditSpec)

/-- 'laws.FnExactUndoEdit', WHERE WHAT IT READS IS OF BULK AT MOST 1048576: true; the input reads as it did. -/
def fnExactUndoEditUptoRow : OpenClaim := { program := "ytmmpnigbfiebbaa", sum := "b4a871150033427ff9afaa01851d025b4cb9176ed5ad40633882b9e435c1fc89", func := "loop.example/g01008/laws.FnExactUndoEdit", spec := "fnExactUndoEdit", inPlace := ["internal/bytealg.IndexByteString", "slices.overlaps[string]"], unfollowed := true, recurses := true, apart := false, narrowed := true }
def FnExactUndoEditUptoSaid : Prop := fnExactUndoEditUptoRow.holds Try.pinned (OpenSpec.upto fnExactUndoEditSpec)

/-- 'laws.FnExactForgetEdits', WHERE WHAT IT READS IS OF BULK AT MOST 1048576: true; the input reads as it did. -/
def fnExactForgetEditsUptoRow : OpenClaim := { program := "ytmmpnigbfiebbaa", sum := "b4a871150033427ff9afaa01851d025b4cb9176ed5ad40633882b9e435c1fc89", func := "loop.example/g01008/laws.FnExactForgetEdits", spec := "fnExactForgetEdits", inPlace := ["internal/bytealg.IndexByteString", "slices.overlaps[string]"], unfollowed := true, recurses := true, apart := false, narrowed := true }
def FnExactForgetEditsUptoSaid : Prop := fnExactForgetEditsUptoRow.holds Try.pinned (OpenSpec.upto fnExactForgetEditsSpec)

/-- 'laws.FnExactInsertItem', WHERE WHAT IT READS IS OF BULK AT MOST 1048576: true; the input reads as it did. -/
def fnExactInsertItemUptoRow : OpenClaim := { program := "ytmmpnigbfiebbaa", sum := "b4a871150033427ff9afaa01851d025b4cb9176ed5ad40633882b9e435c1fc89", func := "loop.example/g01008/laws.FnExactInsertItem", spec := "fnExactInsertItem", inPlace := ["internal/bytealg.IndexByteString", "slices.overlaps[string]"], unfollowed := true, recurses := true, apart := false, narrowed := true }
def FnExactInsertItemUptoSaid : Prop := fnExactInsertItemUptoRow.holds Try.pinned (OpenSpec.upto fnExactInsertItemSpec)

/-- 'laws.FnExactDeleteItem', WHERE WHAT IT READS IS OF BULK AT MOST 1048576: true; the input reads as it did. -/
def fnExactDeleteItemUptoRow : OpenClaim := { program := "ytmmpnigbfiebbaa", sum := "b4a871150033427ff9afaa01851d025b4cb9176ed5ad40633882b9e435c1fc89", func := "loop.example/g01008/laws.FnExactDeleteItem", spec := "fnExactDeleteItem", inPlace := ["internal/bytealg.IndexByteString", "slices.overlaps[string]"], unfollowed := true, recurses := true, apart := false, narrowed := true }
def FnExactDeleteItemUptoSaid : Prop := fnExactDeleteItemUptoRow.holds Try.pinned (OpenSpec.upto fnExactDeleteItemSpec)

/-- 'laws.FnExactReplaceItem', WHERE WHAT IT READS IS OF BULK AT MOST 1048576: true; the input reads as it did. -/
def fnExactReplaceItemUptoRow : OpenClaim := { program := "ytmmpnigbfiebbaa", sum := "b4a871150033427ff9afaa01851d025b4cb9176ed5ad40633882b9e435c1fc89", func := "loop.example/g01008/laws.FnExactReplaceItem", spec := "fnExactReplaceItem", inPlace := ["internal/bytealg.IndexByteString", "slices.overlaps[string]"], unfollowed := true, recurses := true, apart := false, narrowed := true }
def FnExactReplaceItemUptoSaid : Prop := fnExactReplaceItemUptoRow.holds Try.pinned (OpenSpec.upto fnExactReplaceItemSpec)

end Rows
end Go.Proofs.Ytmmpnigbfiebbaa
