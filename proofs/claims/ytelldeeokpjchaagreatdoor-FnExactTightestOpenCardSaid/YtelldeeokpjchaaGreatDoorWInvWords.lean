/- The words of the print, as far as this seat's texts reach them (wip/tools/prune.py). -/
import Derived.Test.YtelldeeokpjchaaGreatDoorWInv
import Derived.Test.YtelldeeokpjchaaGreatDoorWFootNe
namespace Go.Proofs.YtelldeeokpjchaaGreatDoorW.PrintWords
open Go.RowKit
end Go.Proofs.YtelldeeokpjchaaGreatDoorW.PrintWords
namespace Go.Proofs.YtelldeeokpjchaaGreatDoorW.PrintLast
section
variable {ops : Array Oper} {a : Act} {o og : Oper} {g : Nat} {t : Tmp} {u : Bool}
end
end Go.Proofs.YtelldeeokpjchaaGreatDoorW.PrintLast
