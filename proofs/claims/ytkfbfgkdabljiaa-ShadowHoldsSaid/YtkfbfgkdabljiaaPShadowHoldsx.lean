/- What the call of each function that the law reaches comes to: it answers as the plain function of the same name does, wherever that one answers; and the law itself out of its plain form. Written by a program of this session (an extended copy of the printer); no condition but what stands in each theorem. -/
import Derived.Test.YtkfbfgkdabljiaaPShadowHoldsx0
import Derived.Test.YtkfbfgkdabljiaaPShadowHoldsx1
import Derived.Test.YtkfbfgkdabljiaaPShadowHoldsx2
import Derived.Test.YtkfbfgkdabljiaaPShadowHoldsx3
import Derived.Test.YtkfbfgkdabljiaaPShadowHoldsx4
import Derived.Test.YtkfbfgkdabljiaaPShadowHoldsx5
import Derived.Test.YtkfbfgkdabljiaaPShadowHoldsx6
import Derived.Test.YtkfbfgkdabljiaaPShadowHoldsx7
import Derived.Test.YtkfbfgkdabljiaaPShadowHoldsx8
import Derived.Test.YtkfbfgkdabljiaaPShadowHoldsx9
import Derived.Test.YtkfbfgkdabljiaaPShadowHoldsx10
import Derived.Test.YtkfbfgkdabljiaaPShadowHoldsx11
import Derived.Test.YtkfbfgkdabljiaaPShadowHoldsx12
import Derived.Test.YtkfbfgkdabljiaaPShadowHoldsx13
namespace Go.Proofs.Ytkfbfgkdabljiaa.PShadowHolds
open Go.RowKit Go.Proofs.YtkfbfgkdabljiaaW.PrintWords Go.Proofs.YtkfbfgkdabljiaaW.PrintLast Go.Proofs.YtkfbfgkdabljiaaW.PrintMore
attribute [local go_sem] max2_int min2_int max_two min_two max_three min_three max_four min_four   -- for this text's walks alone
set_option linter.unusedVariables false
set_option linter.unusedSimpArgs false

end Go.Proofs.Ytkfbfgkdabljiaa.PShadowHolds
