/- What the call of each function that the law reaches comes to: it answers as the plain function of the same name does, wherever that one answers; and the law itself out of its plain form. Written by a program of this session (an extended copy of the printer); no condition but what stands in each theorem. -/
import Derived.Test.YtmedciidghmkkaaPIneqSumsx0
import Derived.Test.YtmedciidghmkkaaPIneqSumsx1
import Derived.Test.YtmedciidghmkkaaPIneqSumsx2
import Derived.Test.YtmedciidghmkkaaPIneqSumsx3
import Derived.Test.YtmedciidghmkkaaPIneqSumsx4
import Derived.Test.YtmedciidghmkkaaPIneqSumsx5
import Derived.Test.YtmedciidghmkkaaPIneqSumsx6
import Derived.Test.YtmedciidghmkkaaPIneqSumsx7
import Derived.Test.YtmedciidghmkkaaPIneqSumsx8
import Derived.Test.YtmedciidghmkkaaPIneqSumsx9
import Derived.Test.YtmedciidghmkkaaPIneqSumsx10
import Derived.Test.YtmedciidghmkkaaPIneqSumsx11
import Derived.Test.YtmedciidghmkkaaPIneqSumsx12
import Derived.Test.YtmedciidghmkkaaPIneqSumsx13
import Derived.Test.YtmedciidghmkkaaPIneqSumsx14
namespace Go.Proofs.Ytmedciidghmkkaa.PIneqSums
open Go.RowKit Go.Proofs.YtmedciidghmkkaaW.PrintWords Go.Proofs.YtmedciidghmkkaaW.PrintLast Go.Proofs.YtmedciidghmkkaaW.PrintMore
attribute [local go_sem] max2_int min2_int max_two min_two max_three min_three max_four min_four   -- for this text's walks alone
set_option linter.unusedVariables false
set_option linter.unusedSimpArgs false

end Go.Proofs.Ytmedciidghmkkaa.PIneqSums
