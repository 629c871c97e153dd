/- PFnExactKeyOfx0, of the words and walks that the law FnExactKeyOf needs; made by this session's program out of printed texts. -/

import Derived.Test.YtecfpllbilgdmaaDoorProg
import Derived.Below
import Derived.Deep.Draws
import Derived.Deep.AppendLies
import Derived.Maps.AppendAt
import Derived.OwnWalk
import Derived.Laws.BytesArg
import Derived.Laws.MakeOwn
import Derived.Laws.OwnMore
import Derived.Deep.OwnRows
import Derived.Tactics
import Derived.Lib.ConvBytes
import Derived.Laws.Slices
import Derived.WalkKit
import Derived.KernelRfl
import Derived.RowKit3
import Derived.Deep.LoopGhost
import Derived.Deep.QuietTactic
import Derived.BigQuiet
import Derived.WideLaws
import Derived.Deep.DeepCutAuto
import Derived.Deep.CutBlock
import Derived.Deep.RegionHeld3
import Derived.Laws.Rows
import Derived.Lib.AppendStr
import Derived.ArgAppend
import Derived.Laws.IdiomCopy
import Derived.OrdersHeld
import Derived.Laws.BitsLemmas
import Derived.RowKit
import Derived.Test.YtecfpllbilgdmaaDoorVEKeyOfWWords
import Derived.Test.YtecfpllbilgdmaaDoorVEKeyOfWLast
import Derived.Test.YtecfpllbilgdmaaDoorVEKeyOfWTab
import Derived.Test.YtecfpllbilgdmaaDoorVEKeyOfWFour
import Derived.Test.YtecfpllbilgdmaaDoorVEKeyOfWQPut
import Derived.Test.YtecfpllbilgdmaaDoorVEKeyOfWApart
import Derived.Test.YtecfpllbilgdmaaDoorVEKeyOfWArr
import Derived.Test.YtecfpllbilgdmaaDoorVEKeyOfWZeros
import Derived.Test.YtecfpllbilgdmaaDoorVEKeyOfWFoot
import Derived.Test.YtecfpllbilgdmaaDoorVEKeyOfWKept
import Derived.Test.YtecfpllbilgdmaaDoorVEKeyOfWShare
import Derived.Test.YtecfpllbilgdmaaDoorVEKeyOfWN
import Derived.Test.YtecfpllbilgdmaaDoorVEKeyOfWFootNe
import Derived.Test.YtecfpllbilgdmaaDoorVEKeyOfWAt
import Derived.Test.YtecfpllbilgdmaaDoorVEKeyOfWEqStruct
import Derived.Test.YtecfpllbilgdmaaDoorVEKeyOfWRepsOne
import Derived.Test.YtecfpllbilgdmaaDoorVEKeyOfWInv
import Derived.Test.YtecfpllbilgdmaaDoorVEKeyOfWInvWords
import Derived.Test.YtecfpllbilgdmaaDoorVEKeyOfWGuard
import Derived.Test.YtecfpllbilgdmaaDoorVEKeyOfWNEv
import Derived.Test.YtecfpllbilgdmaaDoorVEKeyOfWMore
import Derived.Test.YtecfpllbilgdmaaDoorVEKeyOfAux
import Derived.Test.YtecfpllbilgdmaaDoorVEKeyOfShelf
namespace Go.Proofs.YtecfpllbilgdmaaDoor.PFnExactKeyOf
open Go.RowKit Go.Proofs.YtecfpllbilgdmaaDoorW.PrintWords Go.Proofs.YtecfpllbilgdmaaDoorW.PrintLast Go.Proofs.YtecfpllbilgdmaaDoorW.PrintMore
attribute [local go_sem] max2_int min2_int max_two min_two max_three min_three max_four min_four
set_option linter.unusedVariables false
set_option linter.unusedSimpArgs false
def errW : Option Int -> Value
 | none => .nilIface
 | some c => .iface 0 (.int .i64 c)
theorem errW_none : errW none = .nilIface := rfl
theorem errW_some (c : Int) : errW (some c) = .iface 0 (.int .i64 c) := rfl
theorem info9 : (Tryd.prog.info? 9).map (fun i => (i.zero, i.size, i.bytes)) = some (some (.string ⟨#[]⟩), 1, 16) := by kernel_rfl
end Go.Proofs.YtecfpllbilgdmaaDoor.PFnExactKeyOf
