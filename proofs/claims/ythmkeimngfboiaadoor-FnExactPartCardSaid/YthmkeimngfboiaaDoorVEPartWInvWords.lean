/- WInvWords, of the words and walks that the law FnExactPart needs; made by this session's program out of printed texts. -/

import Derived.Test.YthmkeimngfboiaaDoorVEPartWInv
import Derived.Test.YthmkeimngfboiaaDoorVEPartWFootNe
namespace Go.Proofs.YthmkeimngfboiaaDoorW.PrintWords
open Go.RowKit
end Go.Proofs.YthmkeimngfboiaaDoorW.PrintWords
namespace Go.Proofs.YthmkeimngfboiaaDoorW.PrintLast
section
variable {ops : Array Oper} {a : Act} {o og : Oper} {g : Nat} {t : Tmp} {u : Bool}
end
end Go.Proofs.YthmkeimngfboiaaDoorW.PrintLast

