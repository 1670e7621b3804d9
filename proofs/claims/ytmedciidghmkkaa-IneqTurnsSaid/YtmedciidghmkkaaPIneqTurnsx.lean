/- What the call of each function that the law reaches comes to: it answers as the plain function of the same name does, wherever that one answers; and the law itself out of its plain form. Written by a program of this session (an extended copy of the printer); no condition but what stands in each theorem. -/
import Derived.Test.YtmedciidghmkkaaPIneqTurnsx0
import Derived.Test.YtmedciidghmkkaaPIneqTurnsx1
import Derived.Test.YtmedciidghmkkaaPIneqTurnsx2
import Derived.Test.YtmedciidghmkkaaPIneqTurnsx3
import Derived.Test.YtmedciidghmkkaaPIneqTurnsx4
import Derived.Test.YtmedciidghmkkaaPIneqTurnsx5
import Derived.Test.YtmedciidghmkkaaPIneqTurnsx6
import Derived.Test.YtmedciidghmkkaaPIneqTurnsx7
import Derived.Test.YtmedciidghmkkaaPIneqTurnsx8
import Derived.Test.YtmedciidghmkkaaPIneqTurnsx9
import Derived.Test.YtmedciidghmkkaaPIneqTurnsx10
import Derived.Test.YtmedciidghmkkaaPIneqTurnsx11
import Derived.Test.YtmedciidghmkkaaPIneqTurnsx12
import Derived.Test.YtmedciidghmkkaaPIneqTurnsx13
import Derived.Test.YtmedciidghmkkaaPIneqTurnsx14
import Derived.Test.YtmedciidghmkkaaPIneqTurnsx15
namespace Go.Proofs.Ytmedciidghmkkaa.PIneqTurns
open Go.RowKit Go.Proofs.YtmedciidghmkkaaW.PrintWords Go.Proofs.YtmedciidghmkkaaW.PrintLast Go.Proofs.YtmedciidghmkkaaW.PrintMore
attribute [local go_sem] max2_int min2_int max_two min_two max_three min_three max_four min_four   -- for this text's walks alone
set_option linter.unusedVariables false
set_option linter.unusedSimpArgs false

end Go.Proofs.Ytmedciidghmkkaa.PIneqTurns
