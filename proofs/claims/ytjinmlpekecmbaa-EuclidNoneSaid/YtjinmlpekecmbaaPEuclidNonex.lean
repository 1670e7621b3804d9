/- What the call of each function that the law reaches comes to: it answers as the plain function of the same name does, wherever that one answers; and the law itself out of its plain form. Written by a program of this session (an extended copy of the printer); no condition but what stands in each theorem. -/
import Derived.Test.YtjinmlpekecmbaaPEuclidNonex0
import Derived.Test.YtjinmlpekecmbaaPEuclidNonex1
import Derived.Test.YtjinmlpekecmbaaPEuclidNonex2
import Derived.Test.YtjinmlpekecmbaaPEuclidNonex3
import Derived.Test.YtjinmlpekecmbaaPEuclidNonex4
import Derived.Test.YtjinmlpekecmbaaPEuclidNonex5
import Derived.Test.YtjinmlpekecmbaaPEuclidNonex6
import Derived.Test.YtjinmlpekecmbaaPEuclidNonex7
import Derived.Test.YtjinmlpekecmbaaPEuclidNonex8
import Derived.Test.YtjinmlpekecmbaaPEuclidNonex9
namespace Go.Proofs.Ytjinmlpekecmbaa.PEuclidNone
open Go.RowKit Go.Proofs.YtjinmlpekecmbaaW.PrintWords Go.Proofs.YtjinmlpekecmbaaW.PrintLast Go.Proofs.YtjinmlpekecmbaaW.PrintMore
attribute [local go_sem] max2_int min2_int max_two min_two max_three min_three max_four min_four   -- for this text's walks alone
set_option linter.unusedVariables false
set_option linter.unusedSimpArgs false

end Go.Proofs.Ytjinmlpekecmbaa.PEuclidNone
