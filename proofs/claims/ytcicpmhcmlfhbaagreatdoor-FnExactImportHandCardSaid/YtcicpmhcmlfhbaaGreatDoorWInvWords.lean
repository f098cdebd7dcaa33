/- The words of the print, as far as this seat's texts reach them (wip/tools/prune.py). -/
import Derived.Test.YtcicpmhcmlfhbaaGreatDoorWInv
import Derived.Test.YtcicpmhcmlfhbaaGreatDoorWFootNe
namespace Go.Proofs.YtcicpmhcmlfhbaaGreatDoorW.PrintWords
open Go.RowKit
end Go.Proofs.YtcicpmhcmlfhbaaGreatDoorW.PrintWords
namespace Go.Proofs.YtcicpmhcmlfhbaaGreatDoorW.PrintLast
section
variable {ops : Array Oper} {a : Act} {o og : Oper} {g : Nat} {t : Tmp} {u : Bool}
end
end Go.Proofs.YtcicpmhcmlfhbaaGreatDoorW.PrintLast
