/-
  DERIVED. GIVEN WITH THE SEED: THE CARDS: each row of YtcicpmhcmlfhbaaGreatDoorRows.lean that lists a variable, with what it lists TIED to the program's text (the seventh form; the later family's looks); each row that meets fmt, with fmt's text TOLD by the authors' own Lean function (tested against real Go, not proved from fmt's source: count such statements apart). THE CARD IS WHAT COUNTS. Prove the row's statement (the work); the ties are given (YtcicpmhcmlfhbaaGreatDoorTie.lean); close each card by the builder's one call (the guide's Derived/Test/ToyasCard.lean, 'card_holds'). Laid BY PROGRAM, IN A SANDBOX (cutbox-door.mjs). By AI agents, Wed Nov 11 2026. No macro, syntax, notation, axiom, sorry.
-/
import Derived.Test.YtcicpmhcmlfhbaaGreatDoorRows
import GoSem.ClaimSeven
namespace Go.Proofs.YtcicpmhcmlfhbaaGreatDoor
namespace Rows

/-- THE TIED CARD OF 'laws.FnExactImportHand'. -/
def fnExactImportHandCard : Claim7 := { stood := { row := fnExactImportHandRow, standIns := [], harness := (true, "278c3abcaf0adf981e0efac096a2b3af13acad94e50bdab68ac4902528aba0b4"), looks := true }, kinds := [], alts := [], laidByText := true, laidKinds := [.data, .data, .data, .data, .sentinel, .sentinel, .pinned], laidTests := true, laidLooks := .later }
def FnExactImportHandCardSaid : Prop := Claim7.holds Tryz.pinned (.plain (OpenSpec.ofChange fnExactImportHandSpec)) fnExactImportHandCard

/-- THE TIED CARD OF 'laws.FnImports'. -/
def fnImportsCard : Claim7 := { stood := { row := fnImportsRow, standIns := [], harness := (true, "278c3abcaf0adf981e0efac096a2b3af13acad94e50bdab68ac4902528aba0b4"), looks := true }, kinds := [], alts := [], laidByText := true, laidKinds := [.data, .data, .data, .data, .sentinel, .sentinel, .pinned], laidTests := true, laidLooks := .later }
def FnImportsCardSaid : Prop := Claim7.holds Tryz.pinned (.plain (OpenSpec.ofChange fnImportsSpec)) fnImportsCard

/-- THE TIED CARD OF 'laws.FnExactImportAll'. -/
def fnExactImportAllCard : Claim7 := { stood := { row := fnExactImportAllRow, standIns := [], harness := (true, "278c3abcaf0adf981e0efac096a2b3af13acad94e50bdab68ac4902528aba0b4"), looks := true }, kinds := [], alts := [], laidByText := true, laidKinds := [.data, .data, .data, .data, .sentinel, .sentinel, .pinned], laidTests := true, laidLooks := .later }
def FnExactImportAllCardSaid : Prop := Claim7.holds Tryz.pinned (.plain (OpenSpec.ofChange fnExactImportAllSpec)) fnExactImportAllCard

/-- THE TIED CARD OF 'laws.FnExactPartsIn'. -/
def fnExactPartsInCard : Claim7 := { stood := { row := fnExactPartsInRow, standIns := [], harness := (true, "278c3abcaf0adf981e0efac096a2b3af13acad94e50bdab68ac4902528aba0b4"), looks := true }, kinds := [], alts := [], laidByText := true, laidKinds := [.data, .data, .data, .data, .sentinel, .sentinel, .pinned], laidTests := true, laidLooks := .later }
def FnExactPartsInCardSaid : Prop := Claim7.holds Tryz.pinned (.plain (OpenSpec.ofChange fnExactPartsInSpec)) fnExactPartsInCard

/-- THE TIED CARD OF 'laws.FnExactBrokenBy'. -/
def fnExactBrokenByCard : Claim7 := { stood := { row := fnExactBrokenByRow, standIns := [], harness := (true, "278c3abcaf0adf981e0efac096a2b3af13acad94e50bdab68ac4902528aba0b4"), looks := true }, kinds := [], alts := [], laidByText := true, laidKinds := [.data, .data, .data], laidTests := true, laidLooks := .later }
def FnExactBrokenByCardSaid : Prop := Claim7.holds Tryz.pinned (.plain (OpenSpec.ofChange fnExactBrokenBySpec)) fnExactBrokenByCard

/-- THE TIED CARD OF 'laws.FnExactIsPlainOld'. -/
def fnExactIsPlainOldCard : Claim7 := { stood := { row := fnExactIsPlainOldRow, standIns := [], harness := (true, "278c3abcaf0adf981e0efac096a2b3af13acad94e50bdab68ac4902528aba0b4"), looks := true }, kinds := [], alts := [], laidByText := true, laidKinds := [.data, .data, .data, .data, .sentinel, .sentinel, .pinned], laidTests := true, laidLooks := .later }
def FnExactIsPlainOldCardSaid : Prop := Claim7.holds Tryz.pinned (.plain (OpenSpec.ofChange fnExactIsPlainOldSpec)) fnExactIsPlainOldCard

/-- THE SECOND FORM's CARD OF 'laws.FnExactImportHand'. -/
def fnExactImportHandUptoCard : Claim7 := { stood := { row := fnExactImportHandUptoRow, standIns := [], harness := (true, "278c3abcaf0adf981e0efac096a2b3af13acad94e50bdab68ac4902528aba0b4"), looks := true }, kinds := [], alts := [], laidByText := true, laidKinds := [.data, .data, .data, .data, .sentinel, .sentinel, .pinned], laidTests := true, laidLooks := .later }
def FnExactImportHandUptoCardSaid : Prop := Claim7.holds Tryz.pinned (.plain (OpenSpec.upto fnExactImportHandSpec)) fnExactImportHandUptoCard

/-- THE SECOND FORM's CARD OF 'laws.FnImports'. -/
def fnImportsUptoCard : Claim7 := { stood := { row := fnImportsUptoRow, standIns := [], harness := (true, "278c3abcaf0adf981e0efac096a2b3af13acad94e50bdab68ac4902528aba0b4"), looks := true }, kinds := [], alts := [], laidByText := true, laidKinds := [.data, .data, .data, .data, .sentinel, .sentinel, .pinned], laidTests := true, laidLooks := .later }
def FnImportsUptoCardSaid : Prop := Claim7.holds Tryz.pinned (.plain (OpenSpec.upto fnImportsSpec)) fnImportsUptoCard

/-- THE SECOND FORM's CARD OF 'laws.FnExactImportAll'. -/
def fnExactImportAllUptoCard : Claim7 := { stood := { row := fnExactImportAllUptoRow, standIns := [], harness := (true, "278c3abcaf0adf981e0efac096a2b3af13acad94e50bdab68ac4902528aba0b4"), looks := true }, kinds := [], alts := [], laidByText := true, laidKinds := [.data, .data, .data, .data, .sentinel, .sentinel, .pinned], laidTests := true, laidLooks := .later }
def FnExactImportAllUptoCardSaid : Prop := Claim7.holds Tryz.pinned (.plain (OpenSpec.upto fnExactImportAllSpec)) fnExactImportAllUptoCard

/-- THE SECOND FORM's CARD OF 'laws.FnExactPartsIn'. -/
def fnExactPartsInUptoCard : Claim7 := { stood := { row := fnExactPartsInUptoRow, standIns := [], harness := (true, "278c3abcaf0adf981e0efac096a2b3af13acad94e50bdab68ac4902528aba0b4"), looks := true }, kinds := [], alts := [], laidByText := true, laidKinds := [.data, .data, .data, .data, .sentinel, .sentinel, .pinned], laidTests := true, laidLooks := .later }
def FnExactPartsInUptoCardSaid : Prop := Claim7.holds Tryz.pinned (.plain (OpenSpec.upto fnExactPartsInSpec)) fnExactPartsInUptoCard

/-- THE SECOND FORM's CARD OF 'laws.FnExactBrokenBy'. -/
def fnExactBrokenByUptoCard : Claim7 := { stood := { row := fnExactBrokenByUptoRow, standIns := [], harness := (true, "278c3abcaf0adf981e0efac096a2b3af13acad94e50bdab68ac4902528aba0b4"), looks := true }, kinds := [], alts := [], laidByText := true, laidKinds := [.data, .data, .data], laidTests := true, laidLooks := .later }
def FnExactBrokenByUptoCardSaid : Prop := Claim7.holds Tryz.pinned (.plain (OpenSpec.upto fnExactBrokenBySpec)) fnExactBrokenByUptoCard

/-- THE SECOND FORM's CARD OF 'laws.FnExactIsPlainOld'. -/
def fnExactIsPlainOldUptoCard : Claim7 := { stood := { row := fnExactIsPlainOldUptoRow, standIns := [], harness := (true, "278c3abcaf0adf981e0efac096a2b3af13acad94e50bdab68ac4902528aba0b4"), looks := true }, kinds := [], alts := [], laidByText := true, laidKinds := [.data, .data, .data, .data, .sentinel, .sentinel, .pinned], laidTests := true, laidLooks := .later }
def FnExactIsPlainOldUptoCardSaid : Prop := Claim7.holds Tryz.pinned (.plain (OpenSpec.upto fnExactIsPlainOldSpec)) fnExactIsPlainOldUptoCard
end Rows
end Go.Proofs.YtcicpmhcmlfhbaaGreatDoor
