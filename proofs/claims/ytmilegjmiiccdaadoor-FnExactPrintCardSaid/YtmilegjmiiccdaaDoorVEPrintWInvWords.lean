/- WInvWords, of the words and walks that the law FnExactPrint needs; made by this session's program out of printed texts. -/

import Derived.Test.YtmilegjmiiccdaaDoorVEPrintWInv
import Derived.Test.YtmilegjmiiccdaaDoorVEPrintWFootNe
namespace Go.Proofs.YtmilegjmiiccdaaDoorW.PrintWords
open Go.RowKit
end Go.Proofs.YtmilegjmiiccdaaDoorW.PrintWords
namespace Go.Proofs.YtmilegjmiiccdaaDoorW.PrintLast
section
variable {ops : Array Oper} {a : Act} {o og : Oper} {g : Nat} {t : Tmp} {u : Bool}
end
end Go.Proofs.YtmilegjmiiccdaaDoorW.PrintLast

