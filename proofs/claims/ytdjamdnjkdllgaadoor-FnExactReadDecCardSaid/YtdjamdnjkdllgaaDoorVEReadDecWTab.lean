/- WTab, of the words and walks that the law FnExactReadDec needs; made by this session's program out of printed texts. -/

import Derived.Test.YtdjamdnjkdllgaaDoorVEReadDecWLast
import Derived.Test.YtdjamdnjkdllgaaDoorVEReadDecWWords
namespace Go.Proofs.YtdjamdnjkdllgaaDoorW.PrintLast
open Go.Proofs.YtdjamdnjkdllgaaDoorW.PrintWords (Aside0)
section
variable {md : Region.Mode} {ops : Array Oper} {T : Bool × List (List Nat × List Nat)} {l l' li lj lk : Array Bool} {ds : List Nat} {i j k : Nat}
end
end Go.Proofs.YtdjamdnjkdllgaaDoorW.PrintLast

