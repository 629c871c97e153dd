/- PFnExactDecx0, of the words and walks that the law FnExactDec needs; made by this session's program out of printed texts. -/

import Derived.Test.YtpbdfmalilmfcaaDoorProg
import Derived.Below
import Derived.Deep.Draws
import Derived.Deep.AppendLies
import Derived.Maps.AppendAt
import Derived.OwnWalk
import Derived.Laws.BytesArg
import Derived.Laws.MakeOwn
import Derived.Laws.OwnMore
import Derived.Deep.OwnRows
import Derived.Tactics
import Derived.Lib.ConvBytes
import Derived.Laws.Slices
import Derived.WalkKit
import Derived.KernelRfl
import Derived.RowKit3
import Derived.Deep.LoopGhost
import Derived.Deep.QuietTactic
import Derived.BigQuiet
import Derived.WideLaws
import Derived.Deep.DeepCutAuto
import Derived.Deep.CutBlock
import Derived.Deep.RegionHeld3
import Derived.Laws.Rows
import Derived.Lib.AppendStr
import Derived.ArgAppend
import Derived.Laws.IdiomCopy
import Derived.OrdersHeld
import Derived.Laws.BitsLemmas
import Derived.RowKit
import Derived.Test.YtpbdfmalilmfcaaDoorVEDecWWords
import Derived.Test.YtpbdfmalilmfcaaDoorVEDecWLast
import Derived.Test.YtpbdfmalilmfcaaDoorVEDecWTab
import Derived.Test.YtpbdfmalilmfcaaDoorVEDecWFour
import Derived.Test.YtpbdfmalilmfcaaDoorVEDecWQPut
import Derived.Test.YtpbdfmalilmfcaaDoorVEDecWApart
import Derived.Test.YtpbdfmalilmfcaaDoorVEDecWArr
import Derived.Test.YtpbdfmalilmfcaaDoorVEDecWZeros
import Derived.Test.YtpbdfmalilmfcaaDoorVEDecWFoot
import Derived.Test.YtpbdfmalilmfcaaDoorVEDecWKept
import Derived.Test.YtpbdfmalilmfcaaDoorVEDecWShare
import Derived.Test.YtpbdfmalilmfcaaDoorVEDecWN
import Derived.Test.YtpbdfmalilmfcaaDoorVEDecWFootNe
import Derived.Test.YtpbdfmalilmfcaaDoorVEDecWAt
import Derived.Test.YtpbdfmalilmfcaaDoorVEDecWEqStruct
import Derived.Test.YtpbdfmalilmfcaaDoorVEDecWRepsOne
import Derived.Test.YtpbdfmalilmfcaaDoorVEDecWInv
import Derived.Test.YtpbdfmalilmfcaaDoorVEDecWInvWords
import Derived.Test.YtpbdfmalilmfcaaDoorVEDecWGuard
import Derived.Test.YtpbdfmalilmfcaaDoorVEDecWNEv
import Derived.Test.YtpbdfmalilmfcaaDoorVEDecWMore
import Derived.Test.YtpbdfmalilmfcaaDoorVEDecAux
import Derived.Test.YtpbdfmalilmfcaaDoorVEDecShelf
import Derived.Test.YtpbdfmalilmfcaaDoorVEDecPw
import Derived.Test.YtpbdfmalilmfcaaDoorVEDecJoins
namespace Go.Proofs.YtpbdfmalilmfcaaDoor.PFnExactDec
open Go.RowKit Go.Proofs.YtpbdfmalilmfcaaDoorW.PrintWords Go.Proofs.YtpbdfmalilmfcaaDoorW.PrintLast Go.Proofs.YtpbdfmalilmfcaaDoorW.PrintMore
attribute [local go_sem] max2_int min2_int max_two min_two max_three min_three max_four min_four
set_option linter.unusedVariables false
set_option linter.unusedSimpArgs false
def errW : Option Int -> Value
 | none => .nilIface
 | some c => .iface 0 (.int .i64 c)
theorem errW_none : errW none = .nilIface := rfl
theorem errW_some (c : Int) : errW (some c) = .iface 0 (.int .i64 c) := rfl
theorem info5 : (Tryd.prog.info? 5).map (fun i => (i.zero, i.size, i.bytes)) = some (some (.int .u8 0), 1, 1) := by kernel_rfl
end Go.Proofs.YtpbdfmalilmfcaaDoor.PFnExactDec
