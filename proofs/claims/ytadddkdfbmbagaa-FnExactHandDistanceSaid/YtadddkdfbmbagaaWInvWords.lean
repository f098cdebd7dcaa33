/- The words of the print, as far as this seat's texts reach them (wip/tools/prune.py). -/
import Derived.Test.YtadddkdfbmbagaaWInv
import Derived.Test.YtadddkdfbmbagaaWFootNe
namespace Go.Proofs.YtadddkdfbmbagaaW.PrintWords
open Go.RowKit
end Go.Proofs.YtadddkdfbmbagaaW.PrintWords
namespace Go.Proofs.YtadddkdfbmbagaaW.PrintLast
section
variable {ops : Array Oper} {a : Act} {o og : Oper} {g : Nat} {t : Tmp} {u : Bool}
end
end Go.Proofs.YtadddkdfbmbagaaW.PrintLast
