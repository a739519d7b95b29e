-- Out of the words that the kit prints: what this seat's texts name (prunew.py).
import Derived.Test.YtdeggemomajhcaaDoorWInv
import Derived.Test.YtdeggemomajhcaaDoorWFootNe
namespace Go.Proofs.YtdeggemomajhcaaDoorW.PrintWords
open Go.RowKit
end Go.Proofs.YtdeggemomajhcaaDoorW.PrintWords
namespace Go.Proofs.YtdeggemomajhcaaDoorW.PrintLast
section
variable {ops : Array Oper} {a : Act} {o og : Oper} {g : Nat} {t : Tmp} {u : Bool}
end
end Go.Proofs.YtdeggemomajhcaaDoorW.PrintLast

