/- PFnExactReadDecx0, of the words and walks that the law FnExactReadDec needs; made by this session's program out of printed texts. -/

import Derived.Test.YtdjamdnjkdllgaaDoorProg
import Derived.Below
import Derived.Deep.Draws
import Derived.Deep.AppendLies
import Derived.Maps.AppendAt
import Derived.OwnWalk
import Derived.Laws.BytesArg
import Derived.Laws.MakeOwn
import Derived.Laws.OwnMore
import Derived.Deep.OwnRows
import Derived.Tactics
import Derived.Lib.ConvBytes
import Derived.Laws.Slices
import Derived.WalkKit
import Derived.KernelRfl
import Derived.RowKit3
import Derived.Deep.LoopGhost
import Derived.Deep.QuietTactic
import Derived.BigQuiet
import Derived.WideLaws
import Derived.Deep.DeepCutAuto
import Derived.Deep.CutBlock
import Derived.Deep.RegionHeld3
import Derived.Laws.Rows
import Derived.Lib.AppendStr
import Derived.ArgAppend
import Derived.Laws.IdiomCopy
import Derived.OrdersHeld
import Derived.Laws.BitsLemmas
import Derived.RowKit
import Derived.Test.YtdjamdnjkdllgaaDoorVEReadDecWWords
import Derived.Test.YtdjamdnjkdllgaaDoorVEReadDecWLast
import Derived.Test.YtdjamdnjkdllgaaDoorVEReadDecWTab
import Derived.Test.YtdjamdnjkdllgaaDoorVEReadDecWFour
import Derived.Test.YtdjamdnjkdllgaaDoorVEReadDecWQPut
import Derived.Test.YtdjamdnjkdllgaaDoorVEReadDecWApart
import Derived.Test.YtdjamdnjkdllgaaDoorVEReadDecWArr
import Derived.Test.YtdjamdnjkdllgaaDoorVEReadDecWZeros
import Derived.Test.YtdjamdnjkdllgaaDoorVEReadDecWFoot
import Derived.Test.YtdjamdnjkdllgaaDoorVEReadDecWKept
import Derived.Test.YtdjamdnjkdllgaaDoorVEReadDecWShare
import Derived.Test.YtdjamdnjkdllgaaDoorVEReadDecWN
import Derived.Test.YtdjamdnjkdllgaaDoorVEReadDecWFootNe
import Derived.Test.YtdjamdnjkdllgaaDoorVEReadDecWAt
import Derived.Test.YtdjamdnjkdllgaaDoorVEReadDecWEqStruct
import Derived.Test.YtdjamdnjkdllgaaDoorVEReadDecWRepsOne
import Derived.Test.YtdjamdnjkdllgaaDoorVEReadDecWInv
import Derived.Test.YtdjamdnjkdllgaaDoorVEReadDecWInvWords
import Derived.Test.YtdjamdnjkdllgaaDoorVEReadDecWGuard
import Derived.Test.YtdjamdnjkdllgaaDoorVEReadDecWNEv
import Derived.Test.YtdjamdnjkdllgaaDoorVEReadDecWMore
import Derived.Test.YtdjamdnjkdllgaaDoorVEReadDecAux
import Derived.Test.YtdjamdnjkdllgaaDoorVEReadDecShelf
import Derived.Test.YtdjamdnjkdllgaaDoorVEReadDecPw
import Derived.Test.YtdjamdnjkdllgaaDoorVEReadDecJoins
namespace Go.Proofs.YtdjamdnjkdllgaaDoor.PFnExactReadDec
open Go.RowKit Go.Proofs.YtdjamdnjkdllgaaDoorW.PrintWords Go.Proofs.YtdjamdnjkdllgaaDoorW.PrintLast Go.Proofs.YtdjamdnjkdllgaaDoorW.PrintMore
attribute [local go_sem] max2_int min2_int max_two min_two max_three min_three max_four min_four
set_option linter.unusedVariables false
set_option linter.unusedSimpArgs false
def errW : Option Int -> Value
 | none => .nilIface
 | some c => .iface 0 (.int .i64 c)
theorem errW_none : errW none = .nilIface := rfl
theorem errW_some (c : Int) : errW (some c) = .iface 0 (.int .i64 c) := rfl
theorem info5 : (Tryd.prog.info? 5).map (fun i => (i.zero, i.size, i.bytes)) = some (some (.int .u8 0), 1, 1) := by kernel_rfl
end Go.Proofs.YtdjamdnjkdllgaaDoor.PFnExactReadDec
