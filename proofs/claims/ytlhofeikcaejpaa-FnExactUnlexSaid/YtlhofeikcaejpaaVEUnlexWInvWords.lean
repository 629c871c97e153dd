/- WInvWords, of the words and walks that the law FnExactUnlex needs; made by this session's program out of printed texts. -/

import Derived.Test.YtlhofeikcaejpaaVEUnlexWInv
import Derived.Test.YtlhofeikcaejpaaVEUnlexWFootNe
namespace Go.Proofs.YtlhofeikcaejpaaW.PrintWords
open Go.RowKit
end Go.Proofs.YtlhofeikcaejpaaW.PrintWords
namespace Go.Proofs.YtlhofeikcaejpaaW.PrintLast
section
variable {ops : Array Oper} {a : Act} {o og : Oper} {g : Nat} {t : Tmp} {u : Bool}
end
end Go.Proofs.YtlhofeikcaejpaaW.PrintLast

