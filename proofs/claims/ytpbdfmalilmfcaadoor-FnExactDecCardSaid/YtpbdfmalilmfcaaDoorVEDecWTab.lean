/- WTab, of the words and walks that the law FnExactDec needs; made by this session's program out of printed texts. -/

import Derived.Test.YtpbdfmalilmfcaaDoorVEDecWLast
import Derived.Test.YtpbdfmalilmfcaaDoorVEDecWWords
namespace Go.Proofs.YtpbdfmalilmfcaaDoorW.PrintLast
open Go.Proofs.YtpbdfmalilmfcaaDoorW.PrintWords (Aside0)
section
variable {md : Region.Mode} {ops : Array Oper} {T : Bool × List (List Nat × List Nat)} {l l' li lj lk : Array Bool} {ds : List Nat} {i j k : Nat}
end
end Go.Proofs.YtpbdfmalilmfcaaDoorW.PrintLast

