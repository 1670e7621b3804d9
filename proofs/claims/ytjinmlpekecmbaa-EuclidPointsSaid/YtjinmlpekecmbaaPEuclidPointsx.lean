/- What the call of each function that the law reaches comes to: it answers as the plain function of the same name does, wherever that one answers; and the law itself out of its plain form. Written by a program of this session (an extended copy of the printer); no condition but what stands in each theorem. -/
import Derived.Test.YtjinmlpekecmbaaPEuclidPointsx0
import Derived.Test.YtjinmlpekecmbaaPEuclidPointsx1
import Derived.Test.YtjinmlpekecmbaaPEuclidPointsx2
import Derived.Test.YtjinmlpekecmbaaPEuclidPointsx3
import Derived.Test.YtjinmlpekecmbaaPEuclidPointsx4
import Derived.Test.YtjinmlpekecmbaaPEuclidPointsx5
import Derived.Test.YtjinmlpekecmbaaPEuclidPointsx6
import Derived.Test.YtjinmlpekecmbaaPEuclidPointsx7
import Derived.Test.YtjinmlpekecmbaaPEuclidPointsx8
import Derived.Test.YtjinmlpekecmbaaPEuclidPointsx9
import Derived.Test.YtjinmlpekecmbaaPEuclidPointsx10
import Derived.Test.YtjinmlpekecmbaaPEuclidPointsx11
namespace Go.Proofs.Ytjinmlpekecmbaa.PEuclidPoints
open Go.RowKit Go.Proofs.YtjinmlpekecmbaaW.PrintWords Go.Proofs.YtjinmlpekecmbaaW.PrintLast Go.Proofs.YtjinmlpekecmbaaW.PrintMore
attribute [local go_sem] max2_int min2_int max_two min_two max_three min_three max_four min_four   -- for this text's walks alone
set_option linter.unusedVariables false
set_option linter.unusedSimpArgs false

end Go.Proofs.Ytjinmlpekecmbaa.PEuclidPoints
