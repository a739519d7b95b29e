-- Out of the words that the kit prints: what this seat's texts name (prunew.py).
import Derived.Test.YtgkhdpplmdkkaaaWInv
import Derived.Test.YtgkhdpplmdkkaaaWFootNe
namespace Go.Proofs.YtgkhdpplmdkkaaaW.PrintWords
open Go.RowKit
end Go.Proofs.YtgkhdpplmdkkaaaW.PrintWords
namespace Go.Proofs.YtgkhdpplmdkkaaaW.PrintLast
section
variable {ops : Array Oper} {a : Act} {o og : Oper} {g : Nat} {t : Tmp} {u : Bool}
end
end Go.Proofs.YtgkhdpplmdkkaaaW.PrintLast

