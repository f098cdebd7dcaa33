/-
  DERIVED. GIVEN WITH THE SEED: THE CARDS: each row of YtaaldnaefdodkaaGreatDoorRows.lean that lists a variable, with what it lists TIED to the program's text (the seventh form; the later family's looks); each row that meets fmt, with fmt's text TOLD by the authors' own Lean function (tested against real Go, not proved from fmt's source: count such statements apart). THE CARD IS WHAT COUNTS. Prove the row's statement (the work); the ties are given (YtaaldnaefdodkaaGreatDoorTie.lean); close each card by the builder's one call (the guide's Derived/Test/ToyasCard.lean, 'card_holds'). Laid BY PROGRAM, IN A SANDBOX (cutbox-door.mjs). By AI agents, Wed Nov 11 2026. No macro, syntax, notation, axiom, sorry.
-/
import Derived.Test.YtaaldnaefdodkaaGreatDoorRows
import GoSem.ClaimSeven
namespace Go.Proofs.YtaaldnaefdodkaaGreatDoor
namespace Rows

/-- THE TIED CARD OF 'laws.FnExactAreEntries'. -/
def fnExactAreEntriesCard : Claim7 := { stood := { row := fnExactAreEntriesRow, standIns := [], harness := (true, "e76c5cce9979bd6d6fa77c86556ce92c046e1ff9354fea170d8a265268d14abf"), looks := true }, kinds := [], alts := [], laidByText := true, laidKinds := [.data, .data, .data], laidTests := true, laidLooks := .later }
def FnExactAreEntriesCardSaid : Prop := Claim7.holds Tryz.pinned (.plain (OpenSpec.ofChange fnExactAreEntriesSpec)) fnExactAreEntriesCard

/-- THE TIED CARD OF 'laws.FnMoves'. -/
def fnMovesCard : Claim7 := { stood := { row := fnMovesRow, standIns := [], harness := (true, "e76c5cce9979bd6d6fa77c86556ce92c046e1ff9354fea170d8a265268d14abf"), looks := true }, kinds := [], alts := [], laidByText := true, laidKinds := [.data, .data, .data, .sentinel, .sentinel], laidTests := true, laidLooks := .later }
def FnMovesCardSaid : Prop := Claim7.holds Tryz.pinned (.plain (OpenSpec.ofChange fnMovesSpec)) fnMovesCard

/-- THE TIED CARD OF 'laws.FnExactPartsIn'. -/
def fnExactPartsInCard : Claim7 := { stood := { row := fnExactPartsInRow, standIns := [], harness := (true, "e76c5cce9979bd6d6fa77c86556ce92c046e1ff9354fea170d8a265268d14abf"), looks := true }, kinds := [], alts := [], laidByText := true, laidKinds := [.data, .data, .data, .data, .sentinel, .sentinel, .pinned], laidTests := true, laidLooks := .later }
def FnExactPartsInCardSaid : Prop := Claim7.holds Tryz.pinned (.plain (OpenSpec.ofChange fnExactPartsInSpec)) fnExactPartsInCard

/-- THE TIED CARD OF 'laws.FnExactIsPlainOld'. -/
def fnExactIsPlainOldCard : Claim7 := { stood := { row := fnExactIsPlainOldRow, standIns := [], harness := (true, "e76c5cce9979bd6d6fa77c86556ce92c046e1ff9354fea170d8a265268d14abf"), looks := true }, kinds := [], alts := [], laidByText := true, laidKinds := [.data, .data, .data, .data, .sentinel, .sentinel, .pinned], laidTests := true, laidLooks := .later }
def FnExactIsPlainOldCardSaid : Prop := Claim7.holds Tryz.pinned (.plain (OpenSpec.ofChange fnExactIsPlainOldSpec)) fnExactIsPlainOldCard

/-- THE SECOND FORM's CARD OF 'laws.FnExactAreEntries'. -/
def fnExactAreEntriesUptoCard : Claim7 := { stood := { row := fnExactAreEntriesUptoRow, standIns := [], harness := (true, "e76c5cce9979bd6d6fa77c86556ce92c046e1ff9354fea170d8a265268d14abf"), looks := true }, kinds := [], alts := [], laidByText := true, laidKinds := [.data, .data, .data], laidTests := true, laidLooks := .later }
def FnExactAreEntriesUptoCardSaid : Prop := Claim7.holds Tryz.pinned (.plain (OpenSpec.upto fnExactAreEntriesSpec)) fnExactAreEntriesUptoCard

/-- THE SECOND FORM's CARD OF 'laws.FnMoves'. -/
def fnMovesUptoCard : Claim7 := { stood := { row := fnMovesUptoRow, standIns := [], harness := (true, "e76c5cce9979bd6d6fa77c86556ce92c046e1ff9354fea170d8a265268d14abf"), looks := true }, kinds := [], alts := [], laidByText := true, laidKinds := [.data, .data, .data, .sentinel, .sentinel], laidTests := true, laidLooks := .later }
def FnMovesUptoCardSaid : Prop := Claim7.holds Tryz.pinned (.plain (OpenSpec.upto fnMovesSpec)) fnMovesUptoCard

/-- THE SECOND FORM's CARD OF 'laws.FnExactPartsIn'. -/
def fnExactPartsInUptoCard : Claim7 := { stood := { row := fnExactPartsInUptoRow, standIns := [], harness := (true, "e76c5cce9979bd6d6fa77c86556ce92c046e1ff9354fea170d8a265268d14abf"), looks := true }, kinds := [], alts := [], laidByText := true, laidKinds := [.data, .data, .data, .data, .sentinel, .sentinel, .pinned], laidTests := true, laidLooks := .later }
def FnExactPartsInUptoCardSaid : Prop := Claim7.holds Tryz.pinned (.plain (OpenSpec.upto fnExactPartsInSpec)) fnExactPartsInUptoCard

/-- THE SECOND FORM's CARD OF 'laws.FnExactIsPlainOld'. -/
def fnExactIsPlainOldUptoCard : Claim7 := { stood := { row := fnExactIsPlainOldUptoRow, standIns := [], harness := (true, "e76c5cce9979bd6d6fa77c86556ce92c046e1ff9354fea170d8a265268d14abf"), looks := true }, kinds := [], alts := [], laidByText := true, laidKinds := [.data, .data, .data, .data, .sentinel, .sentinel, .pinned], laidTests := true, laidLooks := .later }
def FnExactIsPlainOldUptoCardSaid : Prop := Claim7.holds Tryz.pinned (.plain (OpenSpec.upto fnExactIsPlainOldSpec)) fnExactIsPlainOldUptoCard
end Rows
end Go.Proofs.YtaaldnaefdodkaaGreatDoor
