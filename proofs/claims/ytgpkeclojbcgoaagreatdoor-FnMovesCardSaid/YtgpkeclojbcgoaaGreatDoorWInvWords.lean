/- The words of the print, as far as this seat's texts reach them (wip/tools/prune.py). -/
import Derived.Test.YtgpkeclojbcgoaaGreatDoorWInv
import Derived.Test.YtgpkeclojbcgoaaGreatDoorWFootNe
namespace Go.Proofs.YtgpkeclojbcgoaaGreatDoorW.PrintWords
open Go.RowKit
end Go.Proofs.YtgpkeclojbcgoaaGreatDoorW.PrintWords
namespace Go.Proofs.YtgpkeclojbcgoaaGreatDoorW.PrintLast
section
variable {ops : Array Oper} {a : Act} {o og : Oper} {g : Nat} {t : Tmp} {u : Bool}
end
end Go.Proofs.YtgpkeclojbcgoaaGreatDoorW.PrintLast
