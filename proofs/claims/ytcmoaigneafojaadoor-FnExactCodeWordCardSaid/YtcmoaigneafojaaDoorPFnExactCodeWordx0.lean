-- Of the kit's print, by this session's patched copy of it; not a printed file of the kit's.
import Derived.Test.YtcmoaigneafojaaDoorProg
import Derived.Below
import Derived.Deep.Draws
import Derived.Deep.AppendLies
import Derived.Maps.AppendAt
import Derived.OwnWalk
import Derived.Laws.BytesArg
import Derived.Laws.MakeOwn
import Derived.Laws.OwnMore
import Derived.Deep.OwnRows
import Derived.Tactics
import Derived.Lib.ConvBytes
import Derived.Laws.Slices
import Derived.WalkKit
import Derived.KernelRfl
import Derived.RowKit3
import Derived.Deep.LoopGhost
import Derived.Deep.QuietTactic
import Derived.BigQuiet
import Derived.WideLaws
import Derived.Deep.DeepCutAuto
import Derived.Deep.CutBlock
import Derived.Deep.RegionHeld3
import Derived.Laws.Rows
import Derived.Lib.AppendStr
import Derived.ArgAppend
import Derived.Laws.IdiomCopy
import Derived.OrdersHeld
import Derived.Laws.BitsLemmas
import Derived.RowKit
import Derived.Test.YtcmoaigneafojaaDoorWWords
import Derived.Test.YtcmoaigneafojaaDoorWLast
import Derived.Test.YtcmoaigneafojaaDoorWTab
import Derived.Test.YtcmoaigneafojaaDoorWFour
import Derived.Test.YtcmoaigneafojaaDoorWQPut
import Derived.Test.YtcmoaigneafojaaDoorWApart
import Derived.Test.YtcmoaigneafojaaDoorWArr
import Derived.Test.YtcmoaigneafojaaDoorWZeros
import Derived.Test.YtcmoaigneafojaaDoorWFoot
import Derived.Test.YtcmoaigneafojaaDoorWKept
import Derived.Test.YtcmoaigneafojaaDoorWShare
import Derived.Test.YtcmoaigneafojaaDoorWN
import Derived.Test.YtcmoaigneafojaaDoorWFootNe
import Derived.Test.YtcmoaigneafojaaDoorWAt
import Derived.Test.YtcmoaigneafojaaDoorWEqStruct
import Derived.Test.YtcmoaigneafojaaDoorWRepsOne
import Derived.Test.YtcmoaigneafojaaDoorWInv
import Derived.Test.YtcmoaigneafojaaDoorWInvWords
import Derived.Test.YtcmoaigneafojaaDoorWGuard
import Derived.Test.YtcmoaigneafojaaDoorWNEv
import Derived.Test.YtcmoaigneafojaaDoorWMore
import Derived.Test.YtcmoaigneafojaaDoorAux
import Derived.Test.YtcmoaigneafojaaDoorShelf
namespace Go.Proofs.YtcmoaigneafojaaDoor.PFnExactCodeWord
open Go.RowKit Go.Proofs.YtcmoaigneafojaaDoorW.PrintWords Go.Proofs.YtcmoaigneafojaaDoorW.PrintLast Go.Proofs.YtcmoaigneafojaaDoorW.PrintMore
attribute [local go_sem] max2_int min2_int max_two min_two max_three min_three max_four min_four   -- for this text's walks alone
set_option linter.unusedVariables false
set_option linter.unusedSimpArgs false



def errW : Option Int → Value
  | none => .nilIface
  | some c => .iface 0 (.int .i64 c)
theorem errW_none : errW none = .nilIface := rfl
theorem errW_some (c : Int) : errW (some c) = .iface 0 (.int .i64 c) := rfl

theorem info9 : (Tryd.prog.info? 9).map (fun i => (i.zero, i.size, i.bytes)) = some (some (.string ⟨#[]⟩), 1, 16) := by kernel_rfl
-- the values' own types

end Go.Proofs.YtcmoaigneafojaaDoor.PFnExactCodeWord
