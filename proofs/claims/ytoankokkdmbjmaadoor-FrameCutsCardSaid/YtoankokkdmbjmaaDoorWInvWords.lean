-- Out of the words that the kit prints: what this seat's texts name (prunew.py).
import Derived.Test.YtoankokkdmbjmaaDoorWInv
import Derived.Test.YtoankokkdmbjmaaDoorWFootNe
namespace Go.Proofs.YtoankokkdmbjmaaDoorW.PrintWords
open Go.RowKit
end Go.Proofs.YtoankokkdmbjmaaDoorW.PrintWords
namespace Go.Proofs.YtoankokkdmbjmaaDoorW.PrintLast
section
variable {ops : Array Oper} {a : Act} {o og : Oper} {g : Nat} {t : Tmp} {u : Bool}
end
end Go.Proofs.YtoankokkdmbjmaaDoorW.PrintLast

