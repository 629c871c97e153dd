/- WInvWords, of the words and walks that the law FnExactHeapOk needs; made by this session's program out of printed texts. -/

import Derived.Test.YtcmoaigneafojaaVEHeapOkWInv
import Derived.Test.YtcmoaigneafojaaVEHeapOkWFootNe
namespace Go.Proofs.YtcmoaigneafojaaW.PrintWords
open Go.RowKit
end Go.Proofs.YtcmoaigneafojaaW.PrintWords
namespace Go.Proofs.YtcmoaigneafojaaW.PrintLast
section
variable {ops : Array Oper} {a : Act} {o og : Oper} {g : Nat} {t : Tmp} {u : Bool}
end
end Go.Proofs.YtcmoaigneafojaaW.PrintLast

