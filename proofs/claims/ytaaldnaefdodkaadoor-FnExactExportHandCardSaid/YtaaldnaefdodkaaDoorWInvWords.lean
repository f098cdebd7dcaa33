/- The words of the print, as far as this seat's texts reach them (wip/tools/prune.py). -/
import Derived.Test.YtaaldnaefdodkaaDoorWInv
import Derived.Test.YtaaldnaefdodkaaDoorWFootNe
namespace Go.Proofs.YtaaldnaefdodkaaDoorW.PrintWords
open Go.RowKit
end Go.Proofs.YtaaldnaefdodkaaDoorW.PrintWords
namespace Go.Proofs.YtaaldnaefdodkaaDoorW.PrintLast
section
variable {ops : Array Oper} {a : Act} {o og : Oper} {g : Nat} {t : Tmp} {u : Bool}
end
end Go.Proofs.YtaaldnaefdodkaaDoorW.PrintLast
