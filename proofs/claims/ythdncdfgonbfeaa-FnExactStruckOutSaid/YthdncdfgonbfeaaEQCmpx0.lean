/- What the function loop.example/debtclearing/impl.circlesCmp reaches, as Lean functions, and that the Go functions come to just their answers (written by a program of this session, turned from the kit's printer); no condition. -/
import Derived.Test.YthdncdfgonbfeaaProg
import Derived.Below
import Derived.Deep.Draws
import Derived.Deep.AppendLies
import Derived.Maps.AppendAt
import Derived.OwnWalk
import Derived.Laws.BytesArg
import Derived.Laws.MakeOwn
import Derived.Laws.OwnMore
import Derived.Deep.OwnRows
import Derived.Tactics
import Derived.Lib.ConvBytes
import Derived.Laws.Slices
import Derived.WalkKit
import Derived.KernelRfl
import Derived.RowKit3
import Derived.Deep.LoopGhost
import Derived.Deep.QuietTactic
import Derived.BigQuiet
import Derived.WideLaws
import Derived.Deep.DeepCutAuto
import Derived.Deep.CutBlock
import Derived.Deep.RegionHeld3
import Derived.Laws.Rows
import Derived.Lib.AppendStr
import Derived.ArgAppend
import Derived.Laws.IdiomCopy
import Derived.OrdersHeld
import Derived.Laws.BitsLemmas
import Derived.RowKit
import Derived.Test.YthdncdfgonbfeaaXWords
import Derived.Test.YthdncdfgonbfeaaXLast
import Derived.Test.YthdncdfgonbfeaaXTab
import Derived.Test.YthdncdfgonbfeaaXFour
import Derived.Test.YthdncdfgonbfeaaXQPut
import Derived.Test.YthdncdfgonbfeaaXApart
import Derived.Test.YthdncdfgonbfeaaXArr
import Derived.Test.YthdncdfgonbfeaaXZeros
import Derived.Test.YthdncdfgonbfeaaXFoot
import Derived.Test.YthdncdfgonbfeaaXKept
import Derived.Test.YthdncdfgonbfeaaXShare
import Derived.Test.YthdncdfgonbfeaaXN
import Derived.Test.YthdncdfgonbfeaaXFootNe
import Derived.Test.YthdncdfgonbfeaaXAt
import Derived.Test.YthdncdfgonbfeaaXEqStruct
import Derived.Test.YthdncdfgonbfeaaXRepsOne
import Derived.Test.YthdncdfgonbfeaaXInv
import Derived.Test.YthdncdfgonbfeaaXInvWords
import Derived.Test.YthdncdfgonbfeaaXGuard
import Derived.Test.YthdncdfgonbfeaaXNEv
import Derived.Test.YthdncdfgonbfeaaXMore
namespace Go.Proofs.Ythdncdfgonbfeaa.QCmp
open Go.RowKit Go.Proofs.YthdncdfgonbfeaaW.PrintWords Go.Proofs.YthdncdfgonbfeaaW.PrintLast Go.Proofs.YthdncdfgonbfeaaW.PrintMore
attribute [local go_sem] max2_int min2_int max_two min_two max_three min_three max_four min_four   -- for this text's walks alone
set_option linter.unusedVariables false
set_option linter.unusedSimpArgs false



def errW : Option Int → Value
 | none => .nilIface
 | some c => .iface 0 (.int .i64 c)

end Go.Proofs.Ythdncdfgonbfeaa.QCmp
