/- WInvWords, of the words and walks that the law FnExactLookUp needs; made by this session's program out of printed texts. -/

import Derived.Test.YtlhofeikcaejpaaVELookUpWInv
import Derived.Test.YtlhofeikcaejpaaVELookUpWFootNe
namespace Go.Proofs.YtlhofeikcaejpaaW.PrintWords
open Go.RowKit
end Go.Proofs.YtlhofeikcaejpaaW.PrintWords
namespace Go.Proofs.YtlhofeikcaejpaaW.PrintLast
section
variable {ops : Array Oper} {a : Act} {o og : Oper} {g : Nat} {t : Tmp} {u : Bool}
end
end Go.Proofs.YtlhofeikcaejpaaW.PrintLast

