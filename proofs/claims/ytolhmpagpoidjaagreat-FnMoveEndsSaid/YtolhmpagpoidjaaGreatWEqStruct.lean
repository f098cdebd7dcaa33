/- The words of the print, as far as this seat's texts reach them (wip/tools/prune.py). -/
import Derived.Test.YtolhmpagpoidjaaGreatWWords
import Derived.Laws.StructEq
namespace Go.Proofs.YtolhmpagpoidjaaGreatW.PrintWords
open Go.RowKit
section
variable {P : Program} {d : Nat} {xs ys : Array Value} {f : Field} {fs : List Field} {a b : Value} {r s : Bool} {w : World}
end
end Go.Proofs.YtolhmpagpoidjaaGreatW.PrintWords
