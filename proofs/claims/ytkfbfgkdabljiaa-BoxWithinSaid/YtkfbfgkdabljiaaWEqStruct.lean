
import Derived.Test.YtkfbfgkdabljiaaWWords
import Derived.Laws.StructEq
namespace Go.Proofs.YtkfbfgkdabljiaaW.PrintWords
open Go.RowKit
section
variable {P : Program} {d : Nat} {xs ys : Array Value} {f : Field} {fs : List Field} {a b : Value} {r s : Bool} {w : World}
end
end Go.Proofs.YtkfbfgkdabljiaaW.PrintWords
