/-
  DERIVED. GIVEN WITH THE SEED: THE CARDS: each row of YtaaldnaefdodkaaDoorRows.lean that lists a variable, with what it lists TIED to the program's text (the seventh form; the later family's looks); each row that meets fmt, with fmt's text TOLD by the authors' own Lean function (tested against real Go, not proved from fmt's source: count such statements apart). THE CARD IS WHAT COUNTS. Prove the row's statement (the work); the ties are given (YtaaldnaefdodkaaDoorTie.lean); close each card by the builder's one call (the guide's Derived/Test/ToyasCard.lean, 'card_holds'). Laid BY PROGRAM, IN A SANDBOX (cutbox-door.mjs). By AI agents, Wed Nov 11 2026. No macro, syntax, notation, axiom, sorry.
-/
import Derived.Test.YtaaldnaefdodkaaDoorRows
import GoSem.ClaimSeven
namespace Go.Proofs.YtaaldnaefdodkaaDoor
namespace Rows

/-- THE TIED CARD OF 'laws.FnExactExportHand'. -/
def fnExactExportHandCard : Claim7 := { stood := { row := fnExactExportHandRow, standIns := [], harness := (true, "629842f4548c855f75aafe53013b66d7f0a2314318727663947a9e07a0777a0a"), looks := false }, kinds := [], alts := [], laidByText := true, laidKinds := [.data, .data, .data], laidTests := true, laidLooks := .later }
def FnExactExportHandCardSaid : Prop := Claim7.holds Tryd.pinned (.plain (OpenSpec.ofChange fnExactExportHandSpec)) fnExactExportHandCard

/-- THE SECOND FORM's CARD OF 'laws.FnExactExportHand'. -/
def fnExactExportHandUptoCard : Claim7 := { stood := { row := fnExactExportHandUptoRow, standIns := [], harness := (true, "629842f4548c855f75aafe53013b66d7f0a2314318727663947a9e07a0777a0a"), looks := false }, kinds := [], alts := [], laidByText := true, laidKinds := [.data, .data, .data], laidTests := true, laidLooks := .later }
def FnExactExportHandUptoCardSaid : Prop := Claim7.holds Tryd.pinned (.plain (OpenSpec.upto fnExactExportHandSpec)) fnExactExportHandUptoCard
end Rows
end Go.Proofs.YtaaldnaefdodkaaDoor
