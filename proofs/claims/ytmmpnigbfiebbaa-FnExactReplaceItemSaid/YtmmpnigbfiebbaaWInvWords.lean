/- The words of the print, as far as this seat's texts reach them (wip/tools/prune.py). -/
import Derived.Test.YtmmpnigbfiebbaaWInv
import Derived.Test.YtmmpnigbfiebbaaWFootNe
namespace Go.Proofs.YtmmpnigbfiebbaaW.PrintWords
open Go.RowKit
end Go.Proofs.YtmmpnigbfiebbaaW.PrintWords
namespace Go.Proofs.YtmmpnigbfiebbaaW.PrintLast
section
variable {ops : Array Oper} {a : Act} {o og : Oper} {g : Nat} {t : Tmp} {u : Bool}
end
end Go.Proofs.YtmmpnigbfiebbaaW.PrintLast
