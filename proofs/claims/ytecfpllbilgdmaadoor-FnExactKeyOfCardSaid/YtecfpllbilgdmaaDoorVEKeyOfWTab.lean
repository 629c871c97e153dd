/- WTab, of the words and walks that the law FnExactKeyOf needs; made by this session's program out of printed texts. -/

import Derived.Test.YtecfpllbilgdmaaDoorVEKeyOfWLast
import Derived.Test.YtecfpllbilgdmaaDoorVEKeyOfWWords
namespace Go.Proofs.YtecfpllbilgdmaaDoorW.PrintLast
open Go.Proofs.YtecfpllbilgdmaaDoorW.PrintWords (Aside0)
section
variable {md : Region.Mode} {ops : Array Oper} {T : Bool × List (List Nat × List Nat)} {l l' li lj lk : Array Bool} {ds : List Nat} {i j k : Nat}
end
end Go.Proofs.YtecfpllbilgdmaaDoorW.PrintLast

