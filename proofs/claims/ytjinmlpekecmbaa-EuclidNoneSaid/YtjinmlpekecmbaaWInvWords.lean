
import Derived.Test.YtjinmlpekecmbaaWInv
import Derived.Test.YtjinmlpekecmbaaWFootNe
namespace Go.Proofs.YtjinmlpekecmbaaW.PrintWords
open Go.RowKit
end Go.Proofs.YtjinmlpekecmbaaW.PrintWords
namespace Go.Proofs.YtjinmlpekecmbaaW.PrintLast
section
variable {ops : Array Oper} {a : Act} {o og : Oper} {g : Nat} {t : Tmp} {u : Bool}
end
end Go.Proofs.YtjinmlpekecmbaaW.PrintLast
