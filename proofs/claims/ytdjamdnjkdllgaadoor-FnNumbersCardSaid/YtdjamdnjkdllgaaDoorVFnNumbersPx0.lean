/- PFnNumbersx0, of the words and walks that the law FnNumbers needs; made by this session's program out of printed texts. -/

import Derived.Test.YtdjamdnjkdllgaaDoorProg
import Derived.Below
import Derived.Deep.Draws
import Derived.Deep.AppendLies
import Derived.Maps.AppendAt
import Derived.OwnWalk
import Derived.Laws.BytesArg
import Derived.Laws.MakeOwn
import Derived.Laws.OwnMore
import Derived.Deep.OwnRows
import Derived.Tactics
import Derived.Lib.ConvBytes
import Derived.Laws.Slices
import Derived.WalkKit
import Derived.KernelRfl
import Derived.RowKit3
import Derived.Deep.LoopGhost
import Derived.Deep.QuietTactic
import Derived.BigQuiet
import Derived.WideLaws
import Derived.Deep.DeepCutAuto
import Derived.Deep.CutBlock
import Derived.Deep.RegionHeld3
import Derived.Laws.Rows
import Derived.Lib.AppendStr
import Derived.ArgAppend
import Derived.Laws.IdiomCopy
import Derived.OrdersHeld
import Derived.Laws.BitsLemmas
import Derived.RowKit
import Derived.Test.YtdjamdnjkdllgaaDoorVFnNumbersWWords
import Derived.Test.YtdjamdnjkdllgaaDoorVFnNumbersWLast
import Derived.Test.YtdjamdnjkdllgaaDoorVFnNumbersWTab
import Derived.Test.YtdjamdnjkdllgaaDoorVFnNumbersWFour
import Derived.Test.YtdjamdnjkdllgaaDoorVFnNumbersWQPut
import Derived.Test.YtdjamdnjkdllgaaDoorVFnNumbersWApart
import Derived.Test.YtdjamdnjkdllgaaDoorVFnNumbersWArr
import Derived.Test.YtdjamdnjkdllgaaDoorVFnNumbersWZeros
import Derived.Test.YtdjamdnjkdllgaaDoorVFnNumbersWFoot
import Derived.Test.YtdjamdnjkdllgaaDoorVFnNumbersWKept
import Derived.Test.YtdjamdnjkdllgaaDoorVFnNumbersWShare
import Derived.Test.YtdjamdnjkdllgaaDoorVFnNumbersWN
import Derived.Test.YtdjamdnjkdllgaaDoorVFnNumbersWFootNe
import Derived.Test.YtdjamdnjkdllgaaDoorVFnNumbersWAt
import Derived.Test.YtdjamdnjkdllgaaDoorVFnNumbersWEqStruct
import Derived.Test.YtdjamdnjkdllgaaDoorVFnNumbersWRepsOne
import Derived.Test.YtdjamdnjkdllgaaDoorVFnNumbersWInv
import Derived.Test.YtdjamdnjkdllgaaDoorVFnNumbersWInvWords
import Derived.Test.YtdjamdnjkdllgaaDoorVFnNumbersWGuard
import Derived.Test.YtdjamdnjkdllgaaDoorVFnNumbersWNEv
import Derived.Test.YtdjamdnjkdllgaaDoorVFnNumbersWMore
import Derived.Test.YtdjamdnjkdllgaaDoorVFnNumbersAux
import Derived.Test.YtdjamdnjkdllgaaDoorVFnNumbersShelf
import Derived.Test.YtdjamdnjkdllgaaDoorVFnNumbersPw
import Derived.Test.YtdjamdnjkdllgaaDoorVFnNumbersJoins
namespace Go.Proofs.YtdjamdnjkdllgaaDoor.PFnNumbers
open Go.RowKit Go.Proofs.YtdjamdnjkdllgaaDoorW.PrintWords Go.Proofs.YtdjamdnjkdllgaaDoorW.PrintLast Go.Proofs.YtdjamdnjkdllgaaDoorW.PrintMore
attribute [local go_sem] max2_int min2_int max_two min_two max_three min_three max_four min_four
set_option linter.unusedVariables false
set_option linter.unusedSimpArgs false
def errW : Option Int -> Value
 | none => .nilIface
 | some c => .iface 0 (.int .i64 c)
theorem errW_none : errW none = .nilIface := rfl
theorem errW_some (c : Int) : errW (some c) = .iface 0 (.int .i64 c) := rfl
theorem info3 : (Tryd.prog.info? 3).map (fun i => (i.zero, i.size, i.bytes)) = some (some (.int .i64 0), 1, 8) := by kernel_rfl
theorem info5 : (Tryd.prog.info? 5).map (fun i => (i.zero, i.size, i.bytes)) = some (some (.int .u8 0), 1, 1) := by kernel_rfl
end Go.Proofs.YtdjamdnjkdllgaaDoor.PFnNumbers
