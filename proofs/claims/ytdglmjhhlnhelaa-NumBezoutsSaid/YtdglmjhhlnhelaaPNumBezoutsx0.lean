/- What the call of each function that the law reaches comes to: it answers as the plain function of the same name does, wherever that one answers; and the law itself out of its plain form. Written by a program of this session (an extended copy of the printer); no condition but what stands in each theorem. -/
import Derived.Test.YtdglmjhhlnhelaaProg
import Derived.Below
import Derived.Deep.Draws
import Derived.Deep.AppendLies
import Derived.Maps.AppendAt
import Derived.OwnWalk
import Derived.Laws.BytesArg
import Derived.Laws.MakeOwn
import Derived.Laws.OwnMore
import Derived.Deep.OwnRows
import Derived.Tactics
import Derived.Lib.ConvBytes
import Derived.Laws.Slices
import Derived.WalkKit
import Derived.KernelRfl
import Derived.RowKit3
import Derived.Deep.LoopGhost
import Derived.Deep.QuietTactic
import Derived.BigQuiet
import Derived.WideLaws
import Derived.Deep.DeepCutAuto
import Derived.Deep.CutBlock
import Derived.Deep.RegionHeld3
import Derived.Laws.Rows
import Derived.Lib.AppendStr
import Derived.ArgAppend
import Derived.Laws.IdiomCopy
import Derived.OrdersHeld
import Derived.Laws.BitsLemmas
import Derived.RowKit
import Derived.Test.YtdglmjhhlnhelaaWWords
import Derived.Test.YtdglmjhhlnhelaaWLast
import Derived.Test.YtdglmjhhlnhelaaWTab
import Derived.Test.YtdglmjhhlnhelaaWFour
import Derived.Test.YtdglmjhhlnhelaaWQPut
import Derived.Test.YtdglmjhhlnhelaaWApart
import Derived.Test.YtdglmjhhlnhelaaWArr
import Derived.Test.YtdglmjhhlnhelaaWZeros
import Derived.Test.YtdglmjhhlnhelaaWFoot
import Derived.Test.YtdglmjhhlnhelaaWKept
import Derived.Test.YtdglmjhhlnhelaaWShare
import Derived.Test.YtdglmjhhlnhelaaWN
import Derived.Test.YtdglmjhhlnhelaaWFootNe
import Derived.Test.YtdglmjhhlnhelaaWAt
import Derived.Test.YtdglmjhhlnhelaaWEqStruct
import Derived.Test.YtdglmjhhlnhelaaWRepsOne
import Derived.Test.YtdglmjhhlnhelaaWInv
import Derived.Test.YtdglmjhhlnhelaaWInvWords
import Derived.Test.YtdglmjhhlnhelaaWGuard
import Derived.Test.YtdglmjhhlnhelaaWNEv
import Derived.Test.YtdglmjhhlnhelaaWMore
namespace Go.Proofs.Ytdglmjhhlnhelaa.PNumBezouts
open Go.RowKit Go.Proofs.YtdglmjhhlnhelaaW.PrintWords Go.Proofs.YtdglmjhhlnhelaaW.PrintLast Go.Proofs.YtdglmjhhlnhelaaW.PrintMore
attribute [local go_sem] max2_int min2_int max_two min_two max_three min_three max_four min_four   -- for this text's walks alone
set_option linter.unusedVariables false
set_option linter.unusedSimpArgs false



def errW : Option Int → Value
  | none => .nilIface
  | some c => .iface 0 (.int .i64 c)
theorem errW_none : errW none = .nilIface := rfl
theorem errW_some (c : Int) : errW (some c) = .iface 0 (.int .i64 c) := rfl

theorem info2 : (Try.prog.info? 2).map (fun i => (i.zero, i.size, i.bytes)) = some (some (.int .i64 0), 1, 8) := by kernel_rfl
-- the values' own types

end Go.Proofs.Ytdglmjhhlnhelaa.PNumBezouts
