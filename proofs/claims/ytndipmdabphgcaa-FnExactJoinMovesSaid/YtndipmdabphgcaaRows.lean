/-
  No cell of these rows narrows 'for every input' (looked for: loops, veiled, ifaces, maps, wideKeys, modest, calm, conditions, laid).
  DERIVED. THE GIVEN ROWS OF THIS SEAT. 8 by the template 'for every input the law returns true; each argument reads behind the call as it read before'; 0 by the template 'total and deterministic' (their statements: YtndipmdabphgcaaTotals.lean).
  GIVEN WITH THE SEED: the statements are not yours to turn. If you find one false, say at which input.
  Laid BY PROGRAM, IN A SANDBOX (cutbox-rows.mjs): the forced cells as the released guide's own fill.sh prints them over the translation 813c82d80c8713c1… (all of the seat's roots in one cut). By AI agents, Wed Nov 11 2026. No macro, syntax, notation, axiom, sorry.
-/
import Derived.Test.YtndipmdabphgcaaChecked
import GoSem.Claim
import GoSem.ClaimJoined
import GoSem.ClaimMapViews
import Derived.JoinedTies
import Derived.KernelRfl
namespace Go.Proofs.Ytndipmdabphgcaa
/- THE CELL 'sum', in the pinned program and in every row, IS THE sha256 OF THE DUMP (.gsa) THAT YtndipmdabphgcaaProg.lean LOADS. Nothing in Lean hashes anything: it is a label: what it is worth is what the hold of that sum in a sandbox is worth. -/
noncomputable def Try.pinned : Pinned := { name := "ytndipmdabphgcaa", sum := "813c82d80c8713c1c37dc3c4fe261590de9b0ba7a0803149549dab14d469a200", checked := Try.checked }
namespace Rows
def none {H : Type} : Left H := { results := [], args := [] }

/-- 'laws.FnExactOldPlace': WHATEVER THE INPUT: true; the input reads as it did. -/
def fnExactOldPlaceSpec : ChangeSpec := { name := "fnExactOldPlace", fn := fun _ => fun
  | [d] => { results := [.lit (.bool true)], args := [d] }
  | _ => none }
def fnExactOldPlaceRow : OpenClaim := { program := "ytndipmdabphgcaa", sum := "813c82d80c8713c1c37dc3c4fe261590de9b0ba7a0803149549dab14d469a200", func := "loop.example/g01008/laws.FnExactOldPlace", spec := "fnExactOldPlace", apart := false }
def FnExactOldPlaceSaid : Prop := fnExactOldPlaceRow.holds Try.pinned (OpenSpec.ofChange fnExactOldPlaceSpec)

/-- ITS FALSE NEIGHBOUR: 'it returns false'. Refute it at one input. -/
def fnExactOldPlaceWrong : ChangeSpec := { name := "fnExactOldPlace", fn := fun _ => fun
  | [d] => { results := [.lit (.bool false)], args := [d] }
  | _ => none }
def FnExactOldPlaceWrongFalsely : Prop := fnExactOldPlaceRow.holds Try.pinned (OpenSpec.ofChange fnExactOldPlaceWrong)

/-- 'laws.FnExactAllSteps': WHATEVER THE INPUT: true; the input reads as it did. -/
def fnExactAllStepsSpec : ChangeSpec := { name := "fnExactAllSteps", fn := fun _ => fun
  | [d] => { results := [.lit (.bool true)], args := [d] }
  | _ => none }
def fnExactAllStepsRow : OpenClaim := { program := "ytndipmdabphgcaa", sum := "813c82d80c8713c1c37dc3c4fe261590de9b0ba7a0803149549dab14d469a200", func := "loop.example/g01008/laws.FnExactAllSteps", spec := "fnExactAllSteps", inPlace := ["internal/bytealg.IndexByteString", "internal/abi.NoEscape", "internal/bytealg.MakeNoZero"], apart := false }
def FnExactAllStepsSaid : Prop := fnExactAllStepsRow.holds Try.pinned (OpenSpec.ofChange fnExactAllStepsSpec)

/-- ITS FALSE NEIGHBOUR: 'it returns false'. Refute it at one input. -/
def fnExactAllStepsWrong : ChangeSpec := { name := "fnExactAllSteps", fn := fun _ => fun
  | [d] => { results := [.lit (.bool false)], args := [d] }
  | _ => none }
def FnExactAllStepsWrongFalsely : Prop := fnExactAllStepsRow.holds Try.pinned (OpenSpec.ofChange fnExactAllStepsWrong)

/-- 'laws.FnExactSameMove': WHATEVER THE INPUT: true; the input reads as it did. -/
def fnExactSameMoveSpec : ChangeSpec := { name := "fnExactSameMove", fn := fun _ => fun
  | [d1, d2] => { results := [.lit (.bool true)], args := [d1, d2] }
  | _ => none }
def fnExactSameMoveRow : OpenClaim := { program := "ytndipmdabphgcaa", sum := "813c82d80c8713c1c37dc3c4fe261590de9b0ba7a0803149549dab14d469a200", func := "loop.example/g01008/laws.FnExactSameMove", spec := "fnExactSameMove", inPlace := ["internal/bytealg.IndexByteString", "internal/abi.NoEscape", "internal/bytealg.MakeNoZero"], apart := false }
def FnExactSameMoveSaid : Prop := fnExactSameMoveRow.holds Try.pinned (OpenSpec.ofChange fnExactSameMoveSpec)

/-- ITS FALSE NEIGHBOUR: 'it returns false'. Refute it at one input. -/
def fnExactSameMoveWrong : ChangeSpec := { name := "fnExactSameMove", fn := fun _ => fun
  | [d1, d2] => { results := [.lit (.bool false)], args := [d1, d2] }
  | _ => none }
def FnExactSameMoveWrongFalsely : Prop := fnExactSameMoveRow.holds Try.pinned (OpenSpec.ofChange fnExactSameMoveWrong)

/-- 'laws.FnExactLongestStraight': WHATEVER THE INPUT: true; the input reads as it did. -/
def fnExactLongestStraightSpec : ChangeSpec := { name := "fnExactLongestStraight", fn := fun _ => fun
  | [d] => { results := [.lit (.bool true)], args := [d] }
  | _ => none }
def fnExactLongestStraightRow : OpenClaim := { program := "ytndipmdabphgcaa", sum := "813c82d80c8713c1c37dc3c4fe261590de9b0ba7a0803149549dab14d469a200", func := "loop.example/g01008/laws.FnExactLongestStraight", spec := "fnExactLongestStraight", inPlace := ["internal/bytealg.IndexByteString", "internal/abi.NoEscape", "internal/bytealg.MakeNoZero"], apart := false }
def FnExactLongestStraightSaid : Prop := fnExactLongestStraightRow.holds Try.pinned (OpenSpec.ofChange fnExactLongestStraightSpec)

/-- ITS FALSE NEIGHBOUR: 'it returns false'. Refute it at one input. -/
def fnExactLongestStraightWrong : ChangeSpec := { name := "fnExactLongestStraight", fn := fun _ => fun
  | [d] => { results := [.lit (.bool false)], args := [d] }
  | _ => none }
def FnExactLongestStraightWrongFalsely : Prop := fnExactLongestStraightRow.holds Try.pinned (OpenSpec.ofChange fnExactLongestStraightWrong)

/-- 'laws.FnExactJoinMoves': WHATEVER THE INPUT: true; the input reads as it did. -/
def fnExactJoinMovesSpec : ChangeSpec := { name := "fnExactJoinMoves", fn := fun _ => fun
  | [d1, d2] => { results := [.lit (.bool true)], args := [d1, d2] }
  | _ => none }
def fnExactJoinMovesRow : OpenClaim := { program := "ytndipmdabphgcaa", sum := "813c82d80c8713c1c37dc3c4fe261590de9b0ba7a0803149549dab14d469a200", func := "loop.example/g01008/laws.FnExactJoinMoves", spec := "fnExactJoinMoves", inPlace := ["internal/bytealg.IndexByteString", "internal/abi.NoEscape", "internal/bytealg.MakeNoZero"], apart := false }
def FnExactJoinMovesSaid : Prop := fnExactJoinMovesRow.holds Try.pinned (OpenSpec.ofChange fnExactJoinMovesSpec)

/-- ITS FALSE NEIGHBOUR: 'it returns false'. Refute it at one input. -/
def fnExactJoinMovesWrong : ChangeSpec := { name := "fnExactJoinMoves", fn := fun _ => fun
  | [d1, d2] => { results := [.lit (.bool false)], args := [d1, d2] }
  | _ => none }
def FnExactJoinMovesWrongFalsely : Prop := fnExactJoinMovesRow.holds Try.pinned (OpenSpec.ofChange fnExactJoinMovesWrong)

/-- 'laws.FnExactNormalMove': WHATEVER THE INPUT: true; the input reads as it did. -/
def fnExactNormalMoveSpec : ChangeSpec := { name := "fnExactNormalMove", fn := fun _ => fun
  | [d] => { results := [.lit (.bool true)], args := [d] }
  | _ => none }
def fnExactNormalMoveRow : OpenClaim := { program := "ytndipmdabphgcaa", sum := "813c82d80c8713c1c37dc3c4fe261590de9b0ba7a0803149549dab14d469a200", func := "loop.example/g01008/laws.FnExactNormalMove", spec := "fnExactNormalMove", inPlace := ["internal/bytealg.IndexByteString", "internal/abi.NoEscape", "internal/bytealg.MakeNoZero"], apart := false }
def FnExactNormalMoveSaid : Prop := fnExactNormalMoveRow.holds Try.pinned (OpenSpec.ofChange fnExactNormalMoveSpec)

/-- ITS FALSE NEIGHBOUR: 'it returns false'. Refute it at one input. -/
def fnExactNormalMoveWrong : ChangeSpec := { name := "fnExactNormalMove", fn := fun _ => fun
  | [d] => { results := [.lit (.bool false)], args := [d] }
  | _ => none }
def FnExactNormalMoveWrongFalsely : Prop := fnExactNormalMoveRow.holds Try.pinned (OpenSpec.ofChange fnExactNormalMoveWrong)

/-- 'laws.FnExactStepDistance': WHATEVER THE INPUT: true; the input reads as it did. -/
def fnExactStepDistanceSpec : ChangeSpec := { name := "fnExactStepDistance", fn := fun _ => fun
  | [d1, d2] => { results := [.lit (.bool true)], args := [d1, d2] }
  | _ => none }
def fnExactStepDistanceRow : OpenClaim := { program := "ytndipmdabphgcaa", sum := "813c82d80c8713c1c37dc3c4fe261590de9b0ba7a0803149549dab14d469a200", func := "loop.example/g01008/laws.FnExactStepDistance", spec := "fnExactStepDistance", inPlace := ["internal/bytealg.IndexByteString", "internal/abi.NoEscape", "internal/bytealg.MakeNoZero"], apart := false }
def FnExactStepDistanceSaid : Prop := fnExactStepDistanceRow.holds Try.pinned (OpenSpec.ofChange fnExactStepDistanceSpec)

/-- ITS FALSE NEIGHBOUR: 'it returns false'. Refute it at one input. -/
def fnExactStepDistanceWrong : ChangeSpec := { name := "fnExactStepDistance", fn := fun _ => fun
  | [d1, d2] => { results := [.lit (.bool false)], args := [d1, d2] }
  | _ => none }
def FnExactStepDistanceWrongFalsely : Prop := fnExactStepDistanceRow.holds Try.pinned (OpenSpec.ofChange fnExactStepDistanceWrong)

/-- 'laws.FnExactEndOfMove': WHATEVER THE INPUT: true; the input reads as it did. -/
def fnExactEndOfMoveSpec : ChangeSpec := { name := "fnExactEndOfMove", fn := fun _ => fun
  | [d] => { results := [.lit (.bool true)], args := [d] }
  | _ => none }
def fnExactEndOfMoveRow : OpenClaim := { program := "ytndipmdabphgcaa", sum := "813c82d80c8713c1c37dc3c4fe261590de9b0ba7a0803149549dab14d469a200", func := "loop.example/g01008/laws.FnExactEndOfMove", spec := "fnExactEndOfMove", inPlace := ["internal/bytealg.IndexByteString", "internal/abi.NoEscape", "internal/bytealg.MakeNoZero", "internal/bytealg.CountString", "internal/bytealg.IndexString"], unfollowed := true, recurses := true, named := ["internal/bytealg.MaxLen"], apart := false }
def FnExactEndOfMoveSaid : Prop := fnExactEndOfMoveRow.holds Try.pinned (OpenSpec.ofChange fnExactEndOfMoveSpec)

/-- ITS FALSE NEIGHBOUR: 'it returns false'. Refute it at one input. -/
def fnExactEndOfMoveWrong : ChangeSpec := { name := "fnExactEndOfMove", fn := fun _ => fun
  | [d] => { results := [.lit (.bool false)], args := [d] }
  | _ => none }
def FnExactEndOfMoveWrongFalsely : Prop := fnExactEndOfMoveRow.holds Try.pinned (OpenSpec.ofChange fnExactEndOfMoveWrong)

/- THE SECOND FORM. 'bulk': how many values and letters a reading holds, each counted each time it is reached (what is shared counts as often as it is met; a slice's spare places count too). A statement '..UptoSaid' is the law's where the arguments, and the package variables that the reading takes, are together of bulk at most 1048576: NARROWER than '..Said'. Prove '..Said' where nothing that the law and all that it calls make is longer than what came in: it says more and counts as full. Else prove '..UptoSaid'. A law counts once. -/
mutual
def uptoBulk {H : Type} : DataW H → Nat
  | .lit (.string bytes) => bytes.length + 1
  | .lit _ => 1
  | .nil => 1
  | .ptr d => uptoBulk d + 1
  | .slice elems spare => uptoBulkAll elems + uptoBulkAll spare + 1
  | .agg parts => uptoBulkAll parts + 1
  | .iface _ d => uptoBulk d + 1
  | .map entries => uptoBulkEntries entries + 1
  | .held _ => 1
def uptoBulkAll {H : Type} : List (DataW H) → Nat
  | [] => 0
  | d :: r => uptoBulk d + uptoBulkAll r
def uptoBulkEntries {H : Type} : List (Lit × DataW H) → Nat
  | [] => 0
  | x :: r => uptoBulkEntry x + uptoBulkEntries r
def uptoBulkEntry {H : Type} : Lit × DataW H → Nat
  | (.string bytes, d) => bytes.length + uptoBulk d + 1
  | (_, d) => uptoBulk d + 1
 end
def uptoSmall : (H : Type) → List (DataW H) → Bool := fun _ ds => decide (uptoBulkAll ds ≤ 1048576)
def OpenSpec.upto (s : _root_.Go.ChangeSpec) : _root_.Go.OpenSpec := { _root_.Go.OpenSpec.ofChange s with cond := some uptoSmall }

/-- 'laws.FnExactOldPlace', WHERE WHAT IT READS IS OF BULK AT MOST 1048576: true; the input reads as it did. -/
def fnExactOldPlaceUptoRow : OpenClaim := { program := "ytndipmdabphgcaa", sum := "813c82d80c8713c1c37dc3c4fe261590de9b0ba7a0803149549dab14d469a200", func := "loop.example/g01008/laws.FnExactOldPlace", spec := "fnExactOldPlace", apart := false, narrowed := true }
def FnExactOldPlaceUptoSaid : Prop := fnExactOldPlaceUptoRow.holds Try.pinned (OpenSpec.upto fnExactOldPlaceSpec)

/-- 'laws.FnExactAllSteps', WHERE WHAT IT READS IS OF BULK AT MOST 1048576: true; the input reads as it did. -/
def fnExactAllStepsUptoRow : OpenClaim := { program := "ytndipmdabphgcaa", sum := "813c82d80c8713c1c37dc3c4fe261590de9b0ba7a0803149549dab14d469a200", func := "loop.example/g01008/laws.FnExactAllSteps", spec := "fnExactAllSteps", inPlace := ["internal/bytealg.IndexByteString", "internal/abi.NoEscape", "internal/bytealg.MakeNoZero"], apart := false, narrowed := true }
def FnExactAllStepsUptoSaid : Prop := fnExactAllStepsUptoRow.holds Try.pinned (OpenSpec.upto fnExactAllStepsSpec)

/-- 'laws.FnExactSameMove', WHERE WHAT IT READS IS OF BULK AT MOST 1048576: true; the input reads as it did. -/
def fnExactSameMoveUptoRow : OpenClaim := { program := "ytndipmdabphgcaa", sum := "813c82d80c8713c1c37dc3c4fe261590de9b0ba7a0803149549dab14d469a200", func := "loop.example/g01008/laws.FnExactSameMove", spec := "fnExactSameMove", inPlace := ["internal/bytealg.IndexByteString", "internal/abi.NoEscape", "internal/bytealg.MakeNoZero"], apart := false, narrowed := true }
def FnExactSameMoveUptoSaid : Prop := fnExactSameMoveUptoRow.holds Try.pinned (OpenSpec.upto fnExactSameMoveSpec)

/-- 'laws.FnExactLongestStraight', WHERE WHAT IT READS IS OF BULK AT MOST 1048576: true; the input reads as it did. -/
def fnExactLongestStraightUptoRow : OpenClaim := { program := "ytndipmdabphgcaa", sum := "813c82d80c8713c1c37dc3c4fe261590de9b0ba7a0803149549dab14d469a200", func := "loop.example/g01008/laws.FnExactLongestStraight", spec := "fnExactLongestStraight", inPlace := ["internal/bytealg.IndexByteString", "internal/abi.NoEscape", "internal/bytealg.MakeNoZero"], apart := false, narrowed := true }
def FnExactLongestStraightUptoSaid : Prop := fnExactLongestStraightUptoRow.holds Try.pinned (OpenSpec.upto fnExactLongestStraightSpec)

/-- 'laws.FnExactJoinMoves', WHERE WHAT IT READS IS OF BULK AT MOST 1048576: true; the input reads as it did. -/
def fnExactJoinMovesUptoRow : OpenClaim := { program := "ytndipmdabphgcaa", sum := "813c82d80c8713c1c37dc3c4fe261590de9b0ba7a0803149549dab14d469a200", func := "loop.example/g01008/laws.FnExactJoinMoves", spec := "fnExactJoinMoves", inPlace := ["internal/bytealg.IndexByteString", "internal/abi.NoEscape", "internal/bytealg.MakeNoZero"], apart := false, narrowed := true }
def FnExactJoinMovesUptoSaid : Prop := fnExactJoinMovesUptoRow.holds Try.pinned (OpenSpec.upto fnExactJoinMovesSpec)

/-- 'laws.FnExactNormalMove', WHERE WHAT IT READS IS OF BULK AT MOST 1048576: true; the input reads as it did. -/
def fnExactNormalMoveUptoRow : OpenClaim := { program := "ytndipmdabphgcaa", sum := "813c82d80c8713c1c37dc3c4fe261590de9b0ba7a0803149549dab14d469a200", func := "loop.example/g01008/laws.FnExactNormalMove", spec := "fnExactNormalMove", inPlace := ["internal/bytealg.IndexByteString", "internal/abi.NoEscape", "internal/bytealg.MakeNoZero"], apart := false, narrowed := true }
def FnExactNormalMoveUptoSaid : Prop := fnExactNormalMoveUptoRow.holds Try.pinned (OpenSpec.upto fnExactNormalMoveSpec)

/-- 'laws.FnExactStepDistance', WHERE WHAT IT READS IS OF BULK AT MOST 1048576: true; the input reads as it did. -/
def fnExactStepDistanceUptoRow : OpenClaim := { program := "ytndipmdabphgcaa", sum := "813c82d80c8713c1c37dc3c4fe261590de9b0ba7a0803149549dab14d469a200", func := "loop.example/g01008/laws.FnExactStepDistance", spec := "fnExactStepDistance", inPlace := ["internal/bytealg.IndexByteString", "internal/abi.NoEscape", "internal/bytealg.MakeNoZero"], apart := false, narrowed := true }
def FnExactStepDistanceUptoSaid : Prop := fnExactStepDistanceUptoRow.holds Try.pinned (OpenSpec.upto fnExactStepDistanceSpec)

/-- 'laws.FnExactEndOfMove', WHERE WHAT IT READS IS OF BULK AT MOST 1048576: true; the input reads as it did. -/
def fnExactEndOfMoveUptoRow : OpenClaim := { program := "ytndipmdabphgcaa", sum := "813c82d80c8713c1c37dc3c4fe261590de9b0ba7a0803149549dab14d469a200", func := "loop.example/g01008/laws.FnExactEndOfMove", spec := "fnExactEndOfMove", inPlace := ["internal/bytealg.IndexByteString", "internal/abi.NoEscape", "internal/bytealg.MakeNoZero", "internal/bytealg.CountString", "internal/bytealg.IndexString"], unfollowed := true, recurses := true, named := ["internal/bytealg.MaxLen"], apart := false, narrowed := true }
def FnExactEndOfMoveUptoSaid : Prop := fnExactEndOfMoveUptoRow.holds Try.pinned (OpenSpec.upto fnExactEndOfMoveSpec)

end Rows
end Go.Proofs.Ytndipmdabphgcaa
