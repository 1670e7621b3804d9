
import Derived.Test.YtmedciidghmkkaaWInv
import Derived.Test.YtmedciidghmkkaaWFootNe
namespace Go.Proofs.YtmedciidghmkkaaW.PrintWords
open Go.RowKit
end Go.Proofs.YtmedciidghmkkaaW.PrintWords
namespace Go.Proofs.YtmedciidghmkkaaW.PrintLast
section
variable {ops : Array Oper} {a : Act} {o og : Oper} {g : Nat} {t : Tmp} {u : Bool}
end
end Go.Proofs.YtmedciidghmkkaaW.PrintLast
