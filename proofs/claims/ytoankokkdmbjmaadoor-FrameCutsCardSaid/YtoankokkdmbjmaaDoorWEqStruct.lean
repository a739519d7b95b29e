-- Out of the words that the kit prints: what this seat's texts name (prunew.py).
import Derived.Test.YtoankokkdmbjmaaDoorWWords
import Derived.Laws.StructEq
/-! ### 53. '==' of structs as_ one Bool -/
namespace Go.Proofs.YtoankokkdmbjmaaDoorW.PrintWords
open Go.RowKit
section
variable {P : Program} {d : Nat} {xs ys : Array Value} {f : Field} {fs : List Field} {a b : Value} {r s : Bool} {w : World}
end
end Go.Proofs.YtoankokkdmbjmaaDoorW.PrintWords

