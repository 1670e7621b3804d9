/- What the call of each function that the law reaches comes to: it answers as the plain function of the same name does, wherever that one answers; and the law itself out of its plain form. Written by a program of this session (an extended copy of the printer); no condition but what stands in each theorem. -/
import Derived.Test.YtkfbfgkdabljiaaPBoxWithinx0
import Derived.Test.YtkfbfgkdabljiaaPBoxWithinx1
import Derived.Test.YtkfbfgkdabljiaaPBoxWithinx2
import Derived.Test.YtkfbfgkdabljiaaPBoxWithinx3
import Derived.Test.YtkfbfgkdabljiaaPBoxWithinx4
import Derived.Test.YtkfbfgkdabljiaaPBoxWithinx5
import Derived.Test.YtkfbfgkdabljiaaPBoxWithinx6
import Derived.Test.YtkfbfgkdabljiaaPBoxWithinx7
import Derived.Test.YtkfbfgkdabljiaaPBoxWithinx8
import Derived.Test.YtkfbfgkdabljiaaPBoxWithinx9
namespace Go.Proofs.Ytkfbfgkdabljiaa.PBoxWithin
open Go.RowKit Go.Proofs.YtkfbfgkdabljiaaW.PrintWords Go.Proofs.YtkfbfgkdabljiaaW.PrintLast Go.Proofs.YtkfbfgkdabljiaaW.PrintMore
attribute [local go_sem] max2_int min2_int max_two min_two max_three min_three max_four min_four   -- for this text's walks alone
set_option linter.unusedVariables false
set_option linter.unusedSimpArgs false

end Go.Proofs.Ytkfbfgkdabljiaa.PBoxWithin
