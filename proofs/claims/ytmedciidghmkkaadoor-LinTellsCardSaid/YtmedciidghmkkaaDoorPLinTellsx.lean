/- What the call of each function that the law reaches comes to: it answers as the plain function of the same name does, wherever that one answers; and the law itself out of its plain form. Written by a program of this session (an extended copy of the printer); no condition but what stands in each theorem. -/
import Derived.Test.YtmedciidghmkkaaDoorPLinTellsx0
import Derived.Test.YtmedciidghmkkaaDoorPLinTellsx1
import Derived.Test.YtmedciidghmkkaaDoorPLinTellsx2
import Derived.Test.YtmedciidghmkkaaDoorPLinTellsx3
import Derived.Test.YtmedciidghmkkaaDoorPLinTellsx4
import Derived.Test.YtmedciidghmkkaaDoorPLinTellsx5
import Derived.Test.YtmedciidghmkkaaDoorPLinTellsx6
import Derived.Test.YtmedciidghmkkaaDoorPLinTellsx7
import Derived.Test.YtmedciidghmkkaaDoorPLinTellsx8
import Derived.Test.YtmedciidghmkkaaDoorPLinTellsx9
import Derived.Test.YtmedciidghmkkaaDoorPLinTellsx10
import Derived.Test.YtmedciidghmkkaaDoorPLinTellsx11
import Derived.Test.YtmedciidghmkkaaDoorPLinTellsx12
import Derived.Test.YtmedciidghmkkaaDoorPLinTellsx13
import Derived.Test.YtmedciidghmkkaaDoorPLinTellsx14
namespace Go.Proofs.YtmedciidghmkkaaDoor.PLinTells
open Go.RowKit Go.Proofs.YtmedciidghmkkaaDoorW.PrintWords Go.Proofs.YtmedciidghmkkaaDoorW.PrintLast Go.Proofs.YtmedciidghmkkaaDoorW.PrintMore
attribute [local go_sem] max2_int min2_int max_two min_two max_three min_three max_four min_four   -- for this text's walks alone
set_option linter.unusedVariables false
set_option linter.unusedSimpArgs false

end Go.Proofs.YtmedciidghmkkaaDoor.PLinTells
