/- What the call of each function that the law reaches comes to: it answers as the plain function of the same name does, wherever that one answers; and the law itself out of its plain form. Written by a program of this session (an extended copy of the printer); no condition but what stands in each theorem. -/
import Derived.Test.YtmedciidghmkkaaDoorPLinValuesx0
import Derived.Test.YtmedciidghmkkaaDoorPLinValuesx1
import Derived.Test.YtmedciidghmkkaaDoorPLinValuesx2
import Derived.Test.YtmedciidghmkkaaDoorPLinValuesx3
import Derived.Test.YtmedciidghmkkaaDoorPLinValuesx4
import Derived.Test.YtmedciidghmkkaaDoorPLinValuesx5
import Derived.Test.YtmedciidghmkkaaDoorPLinValuesx6
import Derived.Test.YtmedciidghmkkaaDoorPLinValuesx7
namespace Go.Proofs.YtmedciidghmkkaaDoor.PLinValues
open Go.RowKit Go.Proofs.YtmedciidghmkkaaDoorW.PrintWords Go.Proofs.YtmedciidghmkkaaDoorW.PrintLast Go.Proofs.YtmedciidghmkkaaDoorW.PrintMore
attribute [local go_sem] max2_int min2_int max_two min_two max_three min_three max_four min_four   -- for this text's walks alone
set_option linter.unusedVariables false
set_option linter.unusedSimpArgs false

end Go.Proofs.YtmedciidghmkkaaDoor.PLinValues
