/-
  DERIVED. GIVEN WITH THE SEED: THE CARDS: each row of YtihibilkmjpmdaaGreatDoorRows.lean that lists a variable, with what it lists TIED to the program's text (the seventh form; the later family's looks); each row that meets fmt, with fmt's text TOLD by the authors' own Lean function (tested against real Go, not proved from fmt's source: count such statements apart). THE CARD IS WHAT COUNTS. Prove the row's statement (the work); the ties are given (YtihibilkmjpmdaaGreatDoorTie.lean); close each card by the builder's one call (the guide's Derived/Test/ToyasCard.lean, 'card_holds'). Laid BY PROGRAM, IN A SANDBOX (cutbox-door.mjs). By AI agents, Wed Nov 11 2026. No macro, syntax, notation, axiom, sorry.
-/
import Derived.Test.YtihibilkmjpmdaaGreatDoorRows
import GoSem.ClaimSeven
namespace Go.Proofs.YtihibilkmjpmdaaGreatDoor
namespace Rows

/-- THE TIED CARD OF 'laws.FnExactBrokenRule'. -/
def fnExactBrokenRuleCard : Claim7 := { stood := { row := fnExactBrokenRuleRow, standIns := [], harness := (true, "f337a47ba9bd1a10522b0b61a0dbe87617c3caa4767928151a30c3f8374acf91"), looks := true }, kinds := [], alts := [], laidByText := true, laidKinds := [.data, .data, .data], laidTests := true, laidLooks := .later }
def FnExactBrokenRuleCardSaid : Prop := Claim7.holds Tryz.pinned (.plain (OpenSpec.ofChange fnExactBrokenRuleSpec)) fnExactBrokenRuleCard

/-- THE TIED CARD OF 'laws.FnExactIsSign'. -/
def fnExactIsSignCard : Claim7 := { stood := { row := fnExactIsSignRow, standIns := [], harness := (true, "f337a47ba9bd1a10522b0b61a0dbe87617c3caa4767928151a30c3f8374acf91"), looks := true }, kinds := [], alts := [], laidByText := true, laidKinds := [.data, .data, .data], laidTests := true, laidLooks := .later }
def FnExactIsSignCardSaid : Prop := Claim7.holds Tryz.pinned (.plain (OpenSpec.ofChange fnExactIsSignSpec)) fnExactIsSignCard

/-- THE TIED CARD OF 'laws.FnExactStepsOfSign'. -/
def fnExactStepsOfSignCard : Claim7 := { stood := { row := fnExactStepsOfSignRow, standIns := [], harness := (true, "f337a47ba9bd1a10522b0b61a0dbe87617c3caa4767928151a30c3f8374acf91"), looks := true }, kinds := [], alts := [], laidByText := true, laidKinds := [.data, .data, .data], laidTests := true, laidLooks := .later }
def FnExactStepsOfSignCardSaid : Prop := Claim7.holds Tryz.pinned (.plain (OpenSpec.ofChange fnExactStepsOfSignSpec)) fnExactStepsOfSignCard

/-- THE TIED CARD OF 'laws.FnExactKindOfSign'. -/
def fnExactKindOfSignCard : Claim7 := { stood := { row := fnExactKindOfSignRow, standIns := [], harness := (true, "f337a47ba9bd1a10522b0b61a0dbe87617c3caa4767928151a30c3f8374acf91"), looks := true }, kinds := [], alts := [], laidByText := true, laidKinds := [.data, .data, .data], laidTests := true, laidLooks := .later }
def FnExactKindOfSignCardSaid : Prop := Claim7.holds Tryz.pinned (.plain (OpenSpec.ofChange fnExactKindOfSignSpec)) fnExactKindOfSignCard

/-- THE TIED CARD OF 'laws.FnExactTwoHands'. -/
def fnExactTwoHandsCard : Claim7 := { stood := { row := fnExactTwoHandsRow, standIns := [], harness := (true, "f337a47ba9bd1a10522b0b61a0dbe87617c3caa4767928151a30c3f8374acf91"), looks := true }, kinds := [], alts := [], laidByText := true, laidKinds := [.data, .data, .data], laidTests := true, laidLooks := .later }
def FnExactTwoHandsCardSaid : Prop := Claim7.holds Tryz.pinned (.plain (OpenSpec.ofChange fnExactTwoHandsSpec)) fnExactTwoHandsCard

/-- THE TIED CARD OF 'laws.FnExactDropOther'. -/
def fnExactDropOtherCard : Claim7 := { stood := { row := fnExactDropOtherRow, standIns := [], harness := (true, "f337a47ba9bd1a10522b0b61a0dbe87617c3caa4767928151a30c3f8374acf91"), looks := true }, kinds := [], alts := [], laidByText := true, laidKinds := [.data, .data, .data], laidTests := true, laidLooks := .later }
def FnExactDropOtherCardSaid : Prop := Claim7.holds Tryz.pinned (.plain (OpenSpec.ofChange fnExactDropOtherSpec)) fnExactDropOtherCard

/-- THE SECOND FORM's CARD OF 'laws.FnExactBrokenRule'. -/
def fnExactBrokenRuleUptoCard : Claim7 := { stood := { row := fnExactBrokenRuleUptoRow, standIns := [], harness := (true, "f337a47ba9bd1a10522b0b61a0dbe87617c3caa4767928151a30c3f8374acf91"), looks := true }, kinds := [], alts := [], laidByText := true, laidKinds := [.data, .data, .data], laidTests := true, laidLooks := .later }
def FnExactBrokenRuleUptoCardSaid : Prop := Claim7.holds Tryz.pinned (.plain (OpenSpec.upto fnExactBrokenRuleSpec)) fnExactBrokenRuleUptoCard

/-- THE SECOND FORM's CARD OF 'laws.FnExactIsSign'. -/
def fnExactIsSignUptoCard : Claim7 := { stood := { row := fnExactIsSignUptoRow, standIns := [], harness := (true, "f337a47ba9bd1a10522b0b61a0dbe87617c3caa4767928151a30c3f8374acf91"), looks := true }, kinds := [], alts := [], laidByText := true, laidKinds := [.data, .data, .data], laidTests := true, laidLooks := .later }
def FnExactIsSignUptoCardSaid : Prop := Claim7.holds Tryz.pinned (.plain (OpenSpec.upto fnExactIsSignSpec)) fnExactIsSignUptoCard

/-- THE SECOND FORM's CARD OF 'laws.FnExactStepsOfSign'. -/
def fnExactStepsOfSignUptoCard : Claim7 := { stood := { row := fnExactStepsOfSignUptoRow, standIns := [], harness := (true, "f337a47ba9bd1a10522b0b61a0dbe87617c3caa4767928151a30c3f8374acf91"), looks := true }, kinds := [], alts := [], laidByText := true, laidKinds := [.data, .data, .data], laidTests := true, laidLooks := .later }
def FnExactStepsOfSignUptoCardSaid : Prop := Claim7.holds Tryz.pinned (.plain (OpenSpec.upto fnExactStepsOfSignSpec)) fnExactStepsOfSignUptoCard

/-- THE SECOND FORM's CARD OF 'laws.FnExactKindOfSign'. -/
def fnExactKindOfSignUptoCard : Claim7 := { stood := { row := fnExactKindOfSignUptoRow, standIns := [], harness := (true, "f337a47ba9bd1a10522b0b61a0dbe87617c3caa4767928151a30c3f8374acf91"), looks := true }, kinds := [], alts := [], laidByText := true, laidKinds := [.data, .data, .data], laidTests := true, laidLooks := .later }
def FnExactKindOfSignUptoCardSaid : Prop := Claim7.holds Tryz.pinned (.plain (OpenSpec.upto fnExactKindOfSignSpec)) fnExactKindOfSignUptoCard

/-- THE SECOND FORM's CARD OF 'laws.FnExactTwoHands'. -/
def fnExactTwoHandsUptoCard : Claim7 := { stood := { row := fnExactTwoHandsUptoRow, standIns := [], harness := (true, "f337a47ba9bd1a10522b0b61a0dbe87617c3caa4767928151a30c3f8374acf91"), looks := true }, kinds := [], alts := [], laidByText := true, laidKinds := [.data, .data, .data], laidTests := true, laidLooks := .later }
def FnExactTwoHandsUptoCardSaid : Prop := Claim7.holds Tryz.pinned (.plain (OpenSpec.upto fnExactTwoHandsSpec)) fnExactTwoHandsUptoCard

/-- THE SECOND FORM's CARD OF 'laws.FnExactDropOther'. -/
def fnExactDropOtherUptoCard : Claim7 := { stood := { row := fnExactDropOtherUptoRow, standIns := [], harness := (true, "f337a47ba9bd1a10522b0b61a0dbe87617c3caa4767928151a30c3f8374acf91"), looks := true }, kinds := [], alts := [], laidByText := true, laidKinds := [.data, .data, .data], laidTests := true, laidLooks := .later }
def FnExactDropOtherUptoCardSaid : Prop := Claim7.holds Tryz.pinned (.plain (OpenSpec.upto fnExactDropOtherSpec)) fnExactDropOtherUptoCard
end Rows
end Go.Proofs.YtihibilkmjpmdaaGreatDoor
