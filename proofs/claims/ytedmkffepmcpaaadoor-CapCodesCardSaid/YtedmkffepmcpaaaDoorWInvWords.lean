-- Out of the words that the kit prints: what this seat's texts name (prunew.py).
import Derived.Test.YtedmkffepmcpaaaDoorWInv
import Derived.Test.YtedmkffepmcpaaaDoorWFootNe
namespace Go.Proofs.YtedmkffepmcpaaaDoorW.PrintWords
open Go.RowKit
end Go.Proofs.YtedmkffepmcpaaaDoorW.PrintWords
namespace Go.Proofs.YtedmkffepmcpaaaDoorW.PrintLast
section
variable {ops : Array Oper} {a : Act} {o og : Oper} {g : Nat} {t : Tmp} {u : Bool}
end
end Go.Proofs.YtedmkffepmcpaaaDoorW.PrintLast

