/- WInvWords, of the words and walks that the law FnLexed needs; made by this session's program out of printed texts. -/

import Derived.Test.YtdjamdnjkdllgaaDoorVFnLexedWInv
import Derived.Test.YtdjamdnjkdllgaaDoorVFnLexedWFootNe
namespace Go.Proofs.YtdjamdnjkdllgaaDoorW.PrintWords
open Go.RowKit
end Go.Proofs.YtdjamdnjkdllgaaDoorW.PrintWords
namespace Go.Proofs.YtdjamdnjkdllgaaDoorW.PrintLast
section
variable {ops : Array Oper} {a : Act} {o og : Oper} {g : Nat} {t : Tmp} {u : Bool}
end
end Go.Proofs.YtdjamdnjkdllgaaDoorW.PrintLast

