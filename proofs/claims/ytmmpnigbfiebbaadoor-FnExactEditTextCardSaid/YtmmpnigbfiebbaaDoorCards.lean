/-
  DERIVED. GIVEN WITH THE SEED: THE CARDS: each row of YtmmpnigbfiebbaaDoorRows.lean that lists a variable, with what it lists TIED to the program's text (the seventh form; the later family's looks); each row that meets fmt, with fmt's text TOLD by the authors' own Lean function (tested against real Go, not proved from fmt's source: count such statements apart). THE CARD IS WHAT COUNTS. Prove the row's statement (the work); the ties are given (YtmmpnigbfiebbaaDoorTie.lean); close each card by the builder's one call (the guide's Derived/Test/ToyasCard.lean, 'card_holds'). Laid BY PROGRAM, IN A SANDBOX (cutbox-door.mjs). By AI agents, Wed Nov 11 2026. No macro, syntax, notation, axiom, sorry.
-/
import Derived.Test.YtmmpnigbfiebbaaDoorRows
import GoSem.ClaimSeven
namespace Go.Proofs.YtmmpnigbfiebbaaDoor
namespace Rows

/-- THE TIED CARD OF 'laws.FnExactEditText'. -/
def fnExactEditTextCard : Claim7 := { stood := { row := fnExactEditTextRow, standIns := [], harness := (true, "70386cc518a2efff741c3b1a4a1af24c7916fbf50931f20fb83ab252bd8d61e1"), looks := false }, kinds := [], alts := [], laidByText := true, laidKinds := [.data, .data, .data], laidTests := true, laidLooks := .later }
def FnExactEditTextCardSaid : Prop := Claim7.holds Tryd.pinned (.plain (OpenSpec.ofChange fnExactEditTextSpec)) fnExactEditTextCard

/-- THE SECOND FORM's CARD OF 'laws.FnExactEditText'. -/
def fnExactEditTextUptoCard : Claim7 := { stood := { row := fnExactEditTextUptoRow, standIns := [], harness := (true, "70386cc518a2efff741c3b1a4a1af24c7916fbf50931f20fb83ab252bd8d61e1"), looks := false }, kinds := [], alts := [], laidByText := true, laidKinds := [.data, .data, .data], laidTests := true, laidLooks := .later }
def FnExactEditTextUptoCardSaid : Prop := Claim7.holds Tryd.pinned (.plain (OpenSpec.upto fnExactEditTextSpec)) fnExactEditTextUptoCard
end Rows
end Go.Proofs.YtmmpnigbfiebbaaDoor
