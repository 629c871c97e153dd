/- WInvWords, of the words and walks that the law FnExactRenameOne needs; made by this session's program out of printed texts. -/

import Derived.Test.YtdjamdnjkdllgaaGreatDoorVERenameOneWInv
import Derived.Test.YtdjamdnjkdllgaaGreatDoorVERenameOneWFootNe
namespace Go.Proofs.YtdjamdnjkdllgaaGreatDoorW.PrintWords
open Go.RowKit
end Go.Proofs.YtdjamdnjkdllgaaGreatDoorW.PrintWords
namespace Go.Proofs.YtdjamdnjkdllgaaGreatDoorW.PrintLast
section
variable {ops : Array Oper} {a : Act} {o og : Oper} {g : Nat} {t : Tmp} {u : Bool}
end
end Go.Proofs.YtdjamdnjkdllgaaGreatDoorW.PrintLast

