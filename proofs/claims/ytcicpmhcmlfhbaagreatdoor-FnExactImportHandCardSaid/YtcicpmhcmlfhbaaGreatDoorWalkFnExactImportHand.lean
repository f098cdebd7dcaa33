/- The pure statement of FnExactImportHand, and how its arguments are opened. -/
import Derived.Test.YtcicpmhcmlfhbaaGreatDoorPAx3
import Derived.Test.YtcicpmhcmlfhbaaGreatDoorOpens
namespace Go.Proofs.YtcicpmhcmlfhbaaGreatDoor.PA
open Go.RowKit Go.Proofs.YtcicpmhcmlfhbaaGreatDoorW.PrintWords Go.Proofs.YtcicpmhcmlfhbaaGreatDoorW.PrintLast Go.Proofs.YtcicpmhcmlfhbaaGreatDoorW.PrintMore
set_option linter.unusedVariables false
/-- THE ONE PURE STATEMENT of laws_FnExactImportHand. -/
def laws_FnExactImportHand.Pure : Prop := ∀ (x0 : ByteArray), (x0.size ≤ 9223372036854775807) → ∃ k, laws_FnExactImportHand.f k x0 = some true
end Go.Proofs.YtcicpmhcmlfhbaaGreatDoor.PA
