
import Derived.Test.YtkfbfgkdabljiaaWInv
import Derived.Test.YtkfbfgkdabljiaaWFootNe
namespace Go.Proofs.YtkfbfgkdabljiaaW.PrintWords
open Go.RowKit
end Go.Proofs.YtkfbfgkdabljiaaW.PrintWords
namespace Go.Proofs.YtkfbfgkdabljiaaW.PrintLast
section
variable {ops : Array Oper} {a : Act} {o og : Oper} {g : Nat} {t : Tmp} {u : Bool}
end
end Go.Proofs.YtkfbfgkdabljiaaW.PrintLast
