
import Derived.Test.YtmedciidghmkkaaDoorWInv
import Derived.Test.YtmedciidghmkkaaDoorWFootNe
namespace Go.Proofs.YtmedciidghmkkaaDoorW.PrintWords
open Go.RowKit
end Go.Proofs.YtmedciidghmkkaaDoorW.PrintWords
namespace Go.Proofs.YtmedciidghmkkaaDoorW.PrintLast
section
variable {ops : Array Oper} {a : Act} {o og : Oper} {g : Nat} {t : Tmp} {u : Bool}
end
end Go.Proofs.YtmedciidghmkkaaDoorW.PrintLast
