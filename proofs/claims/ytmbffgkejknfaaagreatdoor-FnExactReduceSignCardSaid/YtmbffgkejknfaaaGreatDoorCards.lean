/-
  DERIVED. GIVEN WITH THE SEED: THE CARDS: each row of YtmbffgkejknfaaaGreatDoorRows.lean that lists a variable, with what it lists TIED to the program's text (the seventh form; the later family's looks); each row that meets fmt, with fmt's text TOLD by the authors' own Lean function (tested against real Go, not proved from fmt's source: count such statements apart). THE CARD IS WHAT COUNTS. Prove the row's statement (the work); the ties are given (YtmbffgkejknfaaaGreatDoorTie.lean); close each card by the builder's one call (the guide's Derived/Test/ToyasCard.lean, 'card_holds'). Laid BY PROGRAM, IN A SANDBOX (cutbox-door.mjs). By AI agents, Wed Nov 11 2026. No macro, syntax, notation, axiom, sorry.
-/
import Derived.Test.YtmbffgkejknfaaaGreatDoorRows
import GoSem.ClaimSeven
namespace Go.Proofs.YtmbffgkejknfaaaGreatDoor
namespace Rows

/-- THE TIED CARD OF 'laws.FnExactSharedParts'. -/
def fnExactSharedPartsCard : Claim7 := { stood := { row := fnExactSharedPartsRow, standIns := [], harness := (true, "c7e6a4280b45ef2c078375740fc3b99794ad810e66df60657a1bd583df7b71b2"), looks := true }, kinds := [], alts := [], laidByText := true, laidKinds := [.data, .data, .data], laidTests := true, laidLooks := .later }
def FnExactSharedPartsCardSaid : Prop := Claim7.holds Tryz.pinned (.plain (OpenSpec.ofChange fnExactSharedPartsSpec)) fnExactSharedPartsCard

/-- THE TIED CARD OF 'laws.FnExactGapOfSigns'. -/
def fnExactGapOfSignsCard : Claim7 := { stood := { row := fnExactGapOfSignsRow, standIns := [], harness := (true, "c7e6a4280b45ef2c078375740fc3b99794ad810e66df60657a1bd583df7b71b2"), looks := true }, kinds := [], alts := [], laidByText := true, laidKinds := [.data, .data, .data], laidTests := true, laidLooks := .later }
def FnExactGapOfSignsCardSaid : Prop := Claim7.holds Tryz.pinned (.plain (OpenSpec.ofChange fnExactGapOfSignsSpec)) fnExactGapOfSignsCard

/-- THE TIED CARD OF 'laws.FnExactKeepsConstraint'. -/
def fnExactKeepsConstraintCard : Claim7 := { stood := { row := fnExactKeepsConstraintRow, standIns := [], harness := (true, "c7e6a4280b45ef2c078375740fc3b99794ad810e66df60657a1bd583df7b71b2"), looks := true }, kinds := [], alts := [], laidByText := true, laidKinds := [.data, .data, .data], laidTests := true, laidLooks := .later }
def FnExactKeepsConstraintCardSaid : Prop := Claim7.holds Tryz.pinned (.plain (OpenSpec.ofChange fnExactKeepsConstraintSpec)) fnExactKeepsConstraintCard

/-- THE TIED CARD OF 'laws.FnExactMirrorSign'. -/
def fnExactMirrorSignCard : Claim7 := { stood := { row := fnExactMirrorSignRow, standIns := [], harness := (true, "c7e6a4280b45ef2c078375740fc3b99794ad810e66df60657a1bd583df7b71b2"), looks := true }, kinds := [], alts := [], laidByText := true, laidKinds := [.data, .data, .data], laidTests := true, laidLooks := .later }
def FnExactMirrorSignCardSaid : Prop := Claim7.holds Tryz.pinned (.plain (OpenSpec.ofChange fnExactMirrorSignSpec)) fnExactMirrorSignCard

/-- THE TIED CARD OF 'laws.FnExactReduceSign'. -/
def fnExactReduceSignCard : Claim7 := { stood := { row := fnExactReduceSignRow, standIns := [], harness := (true, "c7e6a4280b45ef2c078375740fc3b99794ad810e66df60657a1bd583df7b71b2"), looks := true }, kinds := [], alts := [], laidByText := true, laidKinds := [.data, .data, .data], laidTests := true, laidLooks := .later }
def FnExactReduceSignCardSaid : Prop := Claim7.holds Tryz.pinned (.plain (OpenSpec.ofChange fnExactReduceSignSpec)) fnExactReduceSignCard

/-- THE TIED CARD OF 'laws.FnExactSignText'. -/
def fnExactSignTextCard : Claim7 := { stood := { row := fnExactSignTextRow, standIns := [], harness := (true, "c7e6a4280b45ef2c078375740fc3b99794ad810e66df60657a1bd583df7b71b2"), looks := true }, kinds := [], alts := [], laidByText := true, laidKinds := [.data, .data, .data], laidTests := true, laidLooks := .later }
def FnExactSignTextCardSaid : Prop := Claim7.holds Tryz.pinned (.plain (OpenSpec.ofChange fnExactSignTextSpec)) fnExactSignTextCard

/-- THE SECOND FORM's CARD OF 'laws.FnExactSharedParts'. -/
def fnExactSharedPartsUptoCard : Claim7 := { stood := { row := fnExactSharedPartsUptoRow, standIns := [], harness := (true, "c7e6a4280b45ef2c078375740fc3b99794ad810e66df60657a1bd583df7b71b2"), looks := true }, kinds := [], alts := [], laidByText := true, laidKinds := [.data, .data, .data], laidTests := true, laidLooks := .later }
def FnExactSharedPartsUptoCardSaid : Prop := Claim7.holds Tryz.pinned (.plain (OpenSpec.upto fnExactSharedPartsSpec)) fnExactSharedPartsUptoCard

/-- THE SECOND FORM's CARD OF 'laws.FnExactGapOfSigns'. -/
def fnExactGapOfSignsUptoCard : Claim7 := { stood := { row := fnExactGapOfSignsUptoRow, standIns := [], harness := (true, "c7e6a4280b45ef2c078375740fc3b99794ad810e66df60657a1bd583df7b71b2"), looks := true }, kinds := [], alts := [], laidByText := true, laidKinds := [.data, .data, .data], laidTests := true, laidLooks := .later }
def FnExactGapOfSignsUptoCardSaid : Prop := Claim7.holds Tryz.pinned (.plain (OpenSpec.upto fnExactGapOfSignsSpec)) fnExactGapOfSignsUptoCard

/-- THE SECOND FORM's CARD OF 'laws.FnExactKeepsConstraint'. -/
def fnExactKeepsConstraintUptoCard : Claim7 := { stood := { row := fnExactKeepsConstraintUptoRow, standIns := [], harness := (true, "c7e6a4280b45ef2c078375740fc3b99794ad810e66df60657a1bd583df7b71b2"), looks := true }, kinds := [], alts := [], laidByText := true, laidKinds := [.data, .data, .data], laidTests := true, laidLooks := .later }
def FnExactKeepsConstraintUptoCardSaid : Prop := Claim7.holds Tryz.pinned (.plain (OpenSpec.upto fnExactKeepsConstraintSpec)) fnExactKeepsConstraintUptoCard

/-- THE SECOND FORM's CARD OF 'laws.FnExactMirrorSign'. -/
def fnExactMirrorSignUptoCard : Claim7 := { stood := { row := fnExactMirrorSignUptoRow, standIns := [], harness := (true, "c7e6a4280b45ef2c078375740fc3b99794ad810e66df60657a1bd583df7b71b2"), looks := true }, kinds := [], alts := [], laidByText := true, laidKinds := [.data, .data, .data], laidTests := true, laidLooks := .later }
def FnExactMirrorSignUptoCardSaid : Prop := Claim7.holds Tryz.pinned (.plain (OpenSpec.upto fnExactMirrorSignSpec)) fnExactMirrorSignUptoCard

/-- THE SECOND FORM's CARD OF 'laws.FnExactReduceSign'. -/
def fnExactReduceSignUptoCard : Claim7 := { stood := { row := fnExactReduceSignUptoRow, standIns := [], harness := (true, "c7e6a4280b45ef2c078375740fc3b99794ad810e66df60657a1bd583df7b71b2"), looks := true }, kinds := [], alts := [], laidByText := true, laidKinds := [.data, .data, .data], laidTests := true, laidLooks := .later }
def FnExactReduceSignUptoCardSaid : Prop := Claim7.holds Tryz.pinned (.plain (OpenSpec.upto fnExactReduceSignSpec)) fnExactReduceSignUptoCard

/-- THE SECOND FORM's CARD OF 'laws.FnExactSignText'. -/
def fnExactSignTextUptoCard : Claim7 := { stood := { row := fnExactSignTextUptoRow, standIns := [], harness := (true, "c7e6a4280b45ef2c078375740fc3b99794ad810e66df60657a1bd583df7b71b2"), looks := true }, kinds := [], alts := [], laidByText := true, laidKinds := [.data, .data, .data], laidTests := true, laidLooks := .later }
def FnExactSignTextUptoCardSaid : Prop := Claim7.holds Tryz.pinned (.plain (OpenSpec.upto fnExactSignTextSpec)) fnExactSignTextUptoCard
end Rows
end Go.Proofs.YtmbffgkejknfaaaGreatDoor
