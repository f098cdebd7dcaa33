/- The words of the print, as far as this seat's texts reach them (wip/tools/prune.py). -/
import Derived.Test.YtmbffgkejknfaaaGreatDoorWInv
import Derived.Test.YtmbffgkejknfaaaGreatDoorWFootNe
namespace Go.Proofs.YtmbffgkejknfaaaGreatDoorW.PrintWords
open Go.RowKit
end Go.Proofs.YtmbffgkejknfaaaGreatDoorW.PrintWords
namespace Go.Proofs.YtmbffgkejknfaaaGreatDoorW.PrintLast
section
variable {ops : Array Oper} {a : Act} {o og : Oper} {g : Nat} {t : Tmp} {u : Bool}
end
end Go.Proofs.YtmbffgkejknfaaaGreatDoorW.PrintLast
