/-
  DERIVED. GIVEN WITH THE SEED: THE CARDS: each row of YtojfncpjgpklhaaGreatDoorRows.lean that lists a variable, with what it lists TIED to the program's text (the seventh form; the later family's looks); each row that meets fmt, with fmt's text TOLD by the authors' own Lean function (tested against real Go, not proved from fmt's source: count such statements apart). THE CARD IS WHAT COUNTS. Prove the row's statement (the work); the ties are given (YtojfncpjgpklhaaGreatDoorTie.lean); close each card by the builder's one call (the guide's Derived/Test/ToyasCard.lean, 'card_holds'). Laid BY PROGRAM, IN A SANDBOX (cutbox-door.mjs). By AI agents, Wed Nov 11 2026. No macro, syntax, notation, axiom, sorry.
-/
import Derived.Test.YtojfncpjgpklhaaGreatDoorRows
import GoSem.ClaimSeven
namespace Go.Proofs.YtojfncpjgpklhaaGreatDoor
namespace Rows

/-- THE TIED CARD OF 'laws.FnExactAreSameSign'. -/
def fnExactAreSameSignCard : Claim7 := { stood := { row := fnExactAreSameSignRow, standIns := [], harness := (true, "f968dd98aac915c0e7946f939f67aefdbf710a3e5c3275057fd484ad7c267674"), looks := true }, kinds := [], alts := [], laidByText := true, laidKinds := [.data, .data, .data], laidTests := true, laidLooks := .later }
def FnExactAreSameSignCardSaid : Prop := Claim7.holds Tryz.pinned (.plain (OpenSpec.ofChange fnExactAreSameSignSpec)) fnExactAreSameSignCard

/-- THE TIED CARD OF 'laws.FnExactIsReduced'. -/
def fnExactIsReducedCard : Claim7 := { stood := { row := fnExactIsReducedRow, standIns := [], harness := (true, "f968dd98aac915c0e7946f939f67aefdbf710a3e5c3275057fd484ad7c267674"), looks := true }, kinds := [], alts := [], laidByText := true, laidKinds := [.data, .data, .data], laidTests := true, laidLooks := .later }
def FnExactIsReducedCardSaid : Prop := Claim7.holds Tryz.pinned (.plain (OpenSpec.ofChange fnExactIsReducedSpec)) fnExactIsReducedCard

/-- THE TIED CARD OF 'laws.FnExactMirrorsItself'. -/
def fnExactMirrorsItselfCard : Claim7 := { stood := { row := fnExactMirrorsItselfRow, standIns := [], harness := (true, "f968dd98aac915c0e7946f939f67aefdbf710a3e5c3275057fd484ad7c267674"), looks := true }, kinds := [], alts := [], laidByText := true, laidKinds := [.data, .data, .data], laidTests := true, laidLooks := .later }
def FnExactMirrorsItselfCardSaid : Prop := Claim7.holds Tryz.pinned (.plain (OpenSpec.ofChange fnExactMirrorsItselfSpec)) fnExactMirrorsItselfCard

/-- THE TIED CARD OF 'laws.FnExactCompoundTime'. -/
def fnExactCompoundTimeCard : Claim7 := { stood := { row := fnExactCompoundTimeRow, standIns := [], harness := (true, "f968dd98aac915c0e7946f939f67aefdbf710a3e5c3275057fd484ad7c267674"), looks := true }, kinds := [], alts := [], laidByText := true, laidKinds := [.data, .data, .data], laidTests := true, laidLooks := .later }
def FnExactCompoundTimeCardSaid : Prop := Claim7.holds Tryz.pinned (.plain (OpenSpec.ofChange fnExactCompoundTimeSpec)) fnExactCompoundTimeCard

/-- THE TIED CARD OF 'laws.FnExactBrokenBy'. -/
def fnExactBrokenByCard : Claim7 := { stood := { row := fnExactBrokenByRow, standIns := [], harness := (true, "f968dd98aac915c0e7946f939f67aefdbf710a3e5c3275057fd484ad7c267674"), looks := true }, kinds := [], alts := [], laidByText := true, laidKinds := [.data, .data, .data], laidTests := true, laidLooks := .later }
def FnExactBrokenByCardSaid : Prop := Claim7.holds Tryz.pinned (.plain (OpenSpec.ofChange fnExactBrokenBySpec)) fnExactBrokenByCard

/-- THE TIED CARD OF 'laws.FnExactCommonParts'. -/
def fnExactCommonPartsCard : Claim7 := { stood := { row := fnExactCommonPartsRow, standIns := [], harness := (true, "f968dd98aac915c0e7946f939f67aefdbf710a3e5c3275057fd484ad7c267674"), looks := true }, kinds := [], alts := [], laidByText := true, laidKinds := [.data, .data, .data], laidTests := true, laidLooks := .later }
def FnExactCommonPartsCardSaid : Prop := Claim7.holds Tryz.pinned (.plain (OpenSpec.ofChange fnExactCommonPartsSpec)) fnExactCommonPartsCard

/-- THE SECOND FORM's CARD OF 'laws.FnExactAreSameSign'. -/
def fnExactAreSameSignUptoCard : Claim7 := { stood := { row := fnExactAreSameSignUptoRow, standIns := [], harness := (true, "f968dd98aac915c0e7946f939f67aefdbf710a3e5c3275057fd484ad7c267674"), looks := true }, kinds := [], alts := [], laidByText := true, laidKinds := [.data, .data, .data], laidTests := true, laidLooks := .later }
def FnExactAreSameSignUptoCardSaid : Prop := Claim7.holds Tryz.pinned (.plain (OpenSpec.upto fnExactAreSameSignSpec)) fnExactAreSameSignUptoCard

/-- THE SECOND FORM's CARD OF 'laws.FnExactIsReduced'. -/
def fnExactIsReducedUptoCard : Claim7 := { stood := { row := fnExactIsReducedUptoRow, standIns := [], harness := (true, "f968dd98aac915c0e7946f939f67aefdbf710a3e5c3275057fd484ad7c267674"), looks := true }, kinds := [], alts := [], laidByText := true, laidKinds := [.data, .data, .data], laidTests := true, laidLooks := .later }
def FnExactIsReducedUptoCardSaid : Prop := Claim7.holds Tryz.pinned (.plain (OpenSpec.upto fnExactIsReducedSpec)) fnExactIsReducedUptoCard

/-- THE SECOND FORM's CARD OF 'laws.FnExactMirrorsItself'. -/
def fnExactMirrorsItselfUptoCard : Claim7 := { stood := { row := fnExactMirrorsItselfUptoRow, standIns := [], harness := (true, "f968dd98aac915c0e7946f939f67aefdbf710a3e5c3275057fd484ad7c267674"), looks := true }, kinds := [], alts := [], laidByText := true, laidKinds := [.data, .data, .data], laidTests := true, laidLooks := .later }
def FnExactMirrorsItselfUptoCardSaid : Prop := Claim7.holds Tryz.pinned (.plain (OpenSpec.upto fnExactMirrorsItselfSpec)) fnExactMirrorsItselfUptoCard

/-- THE SECOND FORM's CARD OF 'laws.FnExactCompoundTime'. -/
def fnExactCompoundTimeUptoCard : Claim7 := { stood := { row := fnExactCompoundTimeUptoRow, standIns := [], harness := (true, "f968dd98aac915c0e7946f939f67aefdbf710a3e5c3275057fd484ad7c267674"), looks := true }, kinds := [], alts := [], laidByText := true, laidKinds := [.data, .data, .data], laidTests := true, laidLooks := .later }
def FnExactCompoundTimeUptoCardSaid : Prop := Claim7.holds Tryz.pinned (.plain (OpenSpec.upto fnExactCompoundTimeSpec)) fnExactCompoundTimeUptoCard

/-- THE SECOND FORM's CARD OF 'laws.FnExactBrokenBy'. -/
def fnExactBrokenByUptoCard : Claim7 := { stood := { row := fnExactBrokenByUptoRow, standIns := [], harness := (true, "f968dd98aac915c0e7946f939f67aefdbf710a3e5c3275057fd484ad7c267674"), looks := true }, kinds := [], alts := [], laidByText := true, laidKinds := [.data, .data, .data], laidTests := true, laidLooks := .later }
def FnExactBrokenByUptoCardSaid : Prop := Claim7.holds Tryz.pinned (.plain (OpenSpec.upto fnExactBrokenBySpec)) fnExactBrokenByUptoCard

/-- THE SECOND FORM's CARD OF 'laws.FnExactCommonParts'. -/
def fnExactCommonPartsUptoCard : Claim7 := { stood := { row := fnExactCommonPartsUptoRow, standIns := [], harness := (true, "f968dd98aac915c0e7946f939f67aefdbf710a3e5c3275057fd484ad7c267674"), looks := true }, kinds := [], alts := [], laidByText := true, laidKinds := [.data, .data, .data], laidTests := true, laidLooks := .later }
def FnExactCommonPartsUptoCardSaid : Prop := Claim7.holds Tryz.pinned (.plain (OpenSpec.upto fnExactCommonPartsSpec)) fnExactCommonPartsUptoCard
end Rows
end Go.Proofs.YtojfncpjgpklhaaGreatDoor
