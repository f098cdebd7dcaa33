/- The words of the print, as far as this seat's texts reach them (wip/tools/prune.py). -/
import Derived.Test.YtgpkeclojbcgoaaWInv
import Derived.Test.YtgpkeclojbcgoaaWFootNe
namespace Go.Proofs.YtgpkeclojbcgoaaW.PrintWords
open Go.RowKit
end Go.Proofs.YtgpkeclojbcgoaaW.PrintWords
namespace Go.Proofs.YtgpkeclojbcgoaaW.PrintLast
section
variable {ops : Array Oper} {a : Act} {o og : Oper} {g : Nat} {t : Tmp} {u : Bool}
end
end Go.Proofs.YtgpkeclojbcgoaaW.PrintLast
