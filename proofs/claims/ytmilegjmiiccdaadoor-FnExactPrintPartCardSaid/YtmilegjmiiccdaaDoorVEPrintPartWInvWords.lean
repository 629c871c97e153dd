/- WInvWords, of the words and walks that the law FnExactPrintPart needs; made by this session's program out of printed texts. -/

import Derived.Test.YtmilegjmiiccdaaDoorVEPrintPartWInv
import Derived.Test.YtmilegjmiiccdaaDoorVEPrintPartWFootNe
namespace Go.Proofs.YtmilegjmiiccdaaDoorW.PrintWords
open Go.RowKit
end Go.Proofs.YtmilegjmiiccdaaDoorW.PrintWords
namespace Go.Proofs.YtmilegjmiiccdaaDoorW.PrintLast
section
variable {ops : Array Oper} {a : Act} {o og : Oper} {g : Nat} {t : Tmp} {u : Bool}
end
end Go.Proofs.YtmilegjmiiccdaaDoorW.PrintLast

