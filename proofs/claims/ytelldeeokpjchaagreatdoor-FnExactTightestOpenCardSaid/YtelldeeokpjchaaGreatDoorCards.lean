/-
  DERIVED. GIVEN WITH THE SEED: THE CARDS: each row of YtelldeeokpjchaaGreatDoorRows.lean that lists a variable, with what it lists TIED to the program's text (the seventh form; the later family's looks); each row that meets fmt, with fmt's text TOLD by the authors' own Lean function (tested against real Go, not proved from fmt's source: count such statements apart). THE CARD IS WHAT COUNTS. Prove the row's statement (the work); the ties are given (YtelldeeokpjchaaGreatDoorTie.lean); close each card by the builder's one call (the guide's Derived/Test/ToyasCard.lean, 'card_holds'). Laid BY PROGRAM, IN A SANDBOX (cutbox-door.mjs). By AI agents, Wed Nov 11 2026. No macro, syntax, notation, axiom, sorry.
-/
import Derived.Test.YtelldeeokpjchaaGreatDoorRows
import GoSem.ClaimSeven
namespace Go.Proofs.YtelldeeokpjchaaGreatDoor
namespace Rows

/-- THE TIED CARD OF 'laws.FnExactTwoHands'. -/
def fnExactTwoHandsCard : Claim7 := { stood := { row := fnExactTwoHandsRow, standIns := [], harness := (true, "8a0b8f0b4028e093578729a771c77777fa11b7f23a2d8c843058fae3b77fc276"), looks := true }, kinds := [], alts := [], laidByText := true, laidKinds := [.data, .data, .data], laidTests := true, laidLooks := .later }
def FnExactTwoHandsCardSaid : Prop := Claim7.holds Tryz.pinned (.plain (OpenSpec.ofChange fnExactTwoHandsSpec)) fnExactTwoHandsCard

/-- THE TIED CARD OF 'laws.FnExactDropOther'. -/
def fnExactDropOtherCard : Claim7 := { stood := { row := fnExactDropOtherRow, standIns := [], harness := (true, "8a0b8f0b4028e093578729a771c77777fa11b7f23a2d8c843058fae3b77fc276"), looks := true }, kinds := [], alts := [], laidByText := true, laidKinds := [.data, .data, .data], laidTests := true, laidLooks := .later }
def FnExactDropOtherCardSaid : Prop := Claim7.holds Tryz.pinned (.plain (OpenSpec.ofChange fnExactDropOtherSpec)) fnExactDropOtherCard

/-- THE TIED CARD OF 'laws.FnExactSignText'. -/
def fnExactSignTextCard : Claim7 := { stood := { row := fnExactSignTextRow, standIns := [], harness := (true, "8a0b8f0b4028e093578729a771c77777fa11b7f23a2d8c843058fae3b77fc276"), looks := true }, kinds := [], alts := [], laidByText := true, laidKinds := [.data, .data, .data], laidTests := true, laidLooks := .later }
def FnExactSignTextCardSaid : Prop := Claim7.holds Tryz.pinned (.plain (OpenSpec.ofChange fnExactSignTextSpec)) fnExactSignTextCard

/-- THE TIED CARD OF 'laws.FnExactTightestSteps'. -/
def fnExactTightestStepsCard : Claim7 := { stood := { row := fnExactTightestStepsRow, standIns := [], harness := (true, "8a0b8f0b4028e093578729a771c77777fa11b7f23a2d8c843058fae3b77fc276"), looks := true }, kinds := [], alts := [], laidByText := true, laidKinds := [.data, .data, .data], laidTests := true, laidLooks := .later }
def FnExactTightestStepsCardSaid : Prop := Claim7.holds Tryz.pinned (.plain (OpenSpec.ofChange fnExactTightestStepsSpec)) fnExactTightestStepsCard

/-- THE TIED CARD OF 'laws.FnExactTightestOpen'. -/
def fnExactTightestOpenCard : Claim7 := { stood := { row := fnExactTightestOpenRow, standIns := [], harness := (true, "8a0b8f0b4028e093578729a771c77777fa11b7f23a2d8c843058fae3b77fc276"), looks := true }, kinds := [], alts := [], laidByText := true, laidKinds := [.data, .data, .data], laidTests := true, laidLooks := .later }
def FnExactTightestOpenCardSaid : Prop := Claim7.holds Tryz.pinned (.plain (OpenSpec.ofChange fnExactTightestOpenSpec)) fnExactTightestOpenCard

/-- THE TIED CARD OF 'laws.FnExactIsNormal'. -/
def fnExactIsNormalCard : Claim7 := { stood := { row := fnExactIsNormalRow, standIns := [], harness := (true, "8a0b8f0b4028e093578729a771c77777fa11b7f23a2d8c843058fae3b77fc276"), looks := true }, kinds := [], alts := [], laidByText := true, laidKinds := [.data, .data, .data], laidTests := true, laidLooks := .later }
def FnExactIsNormalCardSaid : Prop := Claim7.holds Tryz.pinned (.plain (OpenSpec.ofChange fnExactIsNormalSpec)) fnExactIsNormalCard

/-- THE SECOND FORM's CARD OF 'laws.FnExactTwoHands'. -/
def fnExactTwoHandsUptoCard : Claim7 := { stood := { row := fnExactTwoHandsUptoRow, standIns := [], harness := (true, "8a0b8f0b4028e093578729a771c77777fa11b7f23a2d8c843058fae3b77fc276"), looks := true }, kinds := [], alts := [], laidByText := true, laidKinds := [.data, .data, .data], laidTests := true, laidLooks := .later }
def FnExactTwoHandsUptoCardSaid : Prop := Claim7.holds Tryz.pinned (.plain (OpenSpec.upto fnExactTwoHandsSpec)) fnExactTwoHandsUptoCard

/-- THE SECOND FORM's CARD OF 'laws.FnExactDropOther'. -/
def fnExactDropOtherUptoCard : Claim7 := { stood := { row := fnExactDropOtherUptoRow, standIns := [], harness := (true, "8a0b8f0b4028e093578729a771c77777fa11b7f23a2d8c843058fae3b77fc276"), looks := true }, kinds := [], alts := [], laidByText := true, laidKinds := [.data, .data, .data], laidTests := true, laidLooks := .later }
def FnExactDropOtherUptoCardSaid : Prop := Claim7.holds Tryz.pinned (.plain (OpenSpec.upto fnExactDropOtherSpec)) fnExactDropOtherUptoCard

/-- THE SECOND FORM's CARD OF 'laws.FnExactSignText'. -/
def fnExactSignTextUptoCard : Claim7 := { stood := { row := fnExactSignTextUptoRow, standIns := [], harness := (true, "8a0b8f0b4028e093578729a771c77777fa11b7f23a2d8c843058fae3b77fc276"), looks := true }, kinds := [], alts := [], laidByText := true, laidKinds := [.data, .data, .data], laidTests := true, laidLooks := .later }
def FnExactSignTextUptoCardSaid : Prop := Claim7.holds Tryz.pinned (.plain (OpenSpec.upto fnExactSignTextSpec)) fnExactSignTextUptoCard

/-- THE SECOND FORM's CARD OF 'laws.FnExactTightestSteps'. -/
def fnExactTightestStepsUptoCard : Claim7 := { stood := { row := fnExactTightestStepsUptoRow, standIns := [], harness := (true, "8a0b8f0b4028e093578729a771c77777fa11b7f23a2d8c843058fae3b77fc276"), looks := true }, kinds := [], alts := [], laidByText := true, laidKinds := [.data, .data, .data], laidTests := true, laidLooks := .later }
def FnExactTightestStepsUptoCardSaid : Prop := Claim7.holds Tryz.pinned (.plain (OpenSpec.upto fnExactTightestStepsSpec)) fnExactTightestStepsUptoCard

/-- THE SECOND FORM's CARD OF 'laws.FnExactTightestOpen'. -/
def fnExactTightestOpenUptoCard : Claim7 := { stood := { row := fnExactTightestOpenUptoRow, standIns := [], harness := (true, "8a0b8f0b4028e093578729a771c77777fa11b7f23a2d8c843058fae3b77fc276"), looks := true }, kinds := [], alts := [], laidByText := true, laidKinds := [.data, .data, .data], laidTests := true, laidLooks := .later }
def FnExactTightestOpenUptoCardSaid : Prop := Claim7.holds Tryz.pinned (.plain (OpenSpec.upto fnExactTightestOpenSpec)) fnExactTightestOpenUptoCard

/-- THE SECOND FORM's CARD OF 'laws.FnExactIsNormal'. -/
def fnExactIsNormalUptoCard : Claim7 := { stood := { row := fnExactIsNormalUptoRow, standIns := [], harness := (true, "8a0b8f0b4028e093578729a771c77777fa11b7f23a2d8c843058fae3b77fc276"), looks := true }, kinds := [], alts := [], laidByText := true, laidKinds := [.data, .data, .data], laidTests := true, laidLooks := .later }
def FnExactIsNormalUptoCardSaid : Prop := Claim7.holds Tryz.pinned (.plain (OpenSpec.upto fnExactIsNormalSpec)) fnExactIsNormalUptoCard
end Rows
end Go.Proofs.YtelldeeokpjchaaGreatDoor
