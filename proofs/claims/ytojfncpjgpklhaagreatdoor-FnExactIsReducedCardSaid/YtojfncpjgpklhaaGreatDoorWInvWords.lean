/- The words of the print, as far as this seat's texts reach them (wip/tools/prune.py). -/
import Derived.Test.YtojfncpjgpklhaaGreatDoorWInv
import Derived.Test.YtojfncpjgpklhaaGreatDoorWFootNe
namespace Go.Proofs.YtojfncpjgpklhaaGreatDoorW.PrintWords
open Go.RowKit
end Go.Proofs.YtojfncpjgpklhaaGreatDoorW.PrintWords
namespace Go.Proofs.YtojfncpjgpklhaaGreatDoorW.PrintLast
section
variable {ops : Array Oper} {a : Act} {o og : Oper} {g : Nat} {t : Tmp} {u : Bool}
end
end Go.Proofs.YtojfncpjgpklhaaGreatDoorW.PrintLast
