/- WInvWords, of the words and walks that the law FnExactDec needs; made by this session's program out of printed texts. -/

import Derived.Test.YtpbdfmalilmfcaaDoorVEDecWInv
import Derived.Test.YtpbdfmalilmfcaaDoorVEDecWFootNe
namespace Go.Proofs.YtpbdfmalilmfcaaDoorW.PrintWords
open Go.RowKit
end Go.Proofs.YtpbdfmalilmfcaaDoorW.PrintWords
namespace Go.Proofs.YtpbdfmalilmfcaaDoorW.PrintLast
section
variable {ops : Array Oper} {a : Act} {o og : Oper} {g : Nat} {t : Tmp} {u : Bool}
end
end Go.Proofs.YtpbdfmalilmfcaaDoorW.PrintLast

