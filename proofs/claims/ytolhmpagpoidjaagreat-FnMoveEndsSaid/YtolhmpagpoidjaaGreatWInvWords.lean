/- The words of the print, as far as this seat's texts reach them (wip/tools/prune.py). -/
import Derived.Test.YtolhmpagpoidjaaGreatWInv
import Derived.Test.YtolhmpagpoidjaaGreatWFootNe
namespace Go.Proofs.YtolhmpagpoidjaaGreatW.PrintWords
open Go.RowKit
end Go.Proofs.YtolhmpagpoidjaaGreatW.PrintWords
namespace Go.Proofs.YtolhmpagpoidjaaGreatW.PrintLast
section
variable {ops : Array Oper} {a : Act} {o og : Oper} {g : Nat} {t : Tmp} {u : Bool}
end
end Go.Proofs.YtolhmpagpoidjaaGreatW.PrintLast
