/- The words of the print, as far as this seat's texts reach them (wip/tools/prune.py). -/
import Derived.Test.YtihibilkmjpmdaaGreatDoorWInv
import Derived.Test.YtihibilkmjpmdaaGreatDoorWFootNe
namespace Go.Proofs.YtihibilkmjpmdaaGreatDoorW.PrintWords
open Go.RowKit
end Go.Proofs.YtihibilkmjpmdaaGreatDoorW.PrintWords
namespace Go.Proofs.YtihibilkmjpmdaaGreatDoorW.PrintLast
section
variable {ops : Array Oper} {a : Act} {o og : Oper} {g : Nat} {t : Tmp} {u : Bool}
end
end Go.Proofs.YtihibilkmjpmdaaGreatDoorW.PrintLast
