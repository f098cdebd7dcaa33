/- The words of the print, as far as this seat's texts reach them (wip/tools/prune.py). -/
import Derived.Test.YtaaldnaefdodkaaGreatDoorWInv
import Derived.Test.YtaaldnaefdodkaaGreatDoorWFootNe
namespace Go.Proofs.YtaaldnaefdodkaaGreatDoorW.PrintWords
open Go.RowKit
end Go.Proofs.YtaaldnaefdodkaaGreatDoorW.PrintWords
namespace Go.Proofs.YtaaldnaefdodkaaGreatDoorW.PrintLast
section
variable {ops : Array Oper} {a : Act} {o og : Oper} {g : Nat} {t : Tmp} {u : Bool}
end
end Go.Proofs.YtaaldnaefdodkaaGreatDoorW.PrintLast
