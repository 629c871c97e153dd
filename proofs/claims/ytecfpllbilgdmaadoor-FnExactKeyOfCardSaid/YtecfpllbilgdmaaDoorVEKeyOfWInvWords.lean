/- WInvWords, of the words and walks that the law FnExactKeyOf needs; made by this session's program out of printed texts. -/

import Derived.Test.YtecfpllbilgdmaaDoorVEKeyOfWInv
import Derived.Test.YtecfpllbilgdmaaDoorVEKeyOfWFootNe
namespace Go.Proofs.YtecfpllbilgdmaaDoorW.PrintWords
open Go.RowKit
end Go.Proofs.YtecfpllbilgdmaaDoorW.PrintWords
namespace Go.Proofs.YtecfpllbilgdmaaDoorW.PrintLast
section
variable {ops : Array Oper} {a : Act} {o og : Oper} {g : Nat} {t : Tmp} {u : Bool}
end
end Go.Proofs.YtecfpllbilgdmaaDoorW.PrintLast

