/- WInvWords, of the words and walks that the law FnValues needs; made by this session's program out of printed texts. -/

import Derived.Test.YtlhofeikcaejpaaDoorVFnValuesWInv
import Derived.Test.YtlhofeikcaejpaaDoorVFnValuesWFootNe
namespace Go.Proofs.YtlhofeikcaejpaaDoorW.PrintWords
open Go.RowKit
end Go.Proofs.YtlhofeikcaejpaaDoorW.PrintWords
namespace Go.Proofs.YtlhofeikcaejpaaDoorW.PrintLast
section
variable {ops : Array Oper} {a : Act} {o og : Oper} {g : Nat} {t : Tmp} {u : Bool}
end
end Go.Proofs.YtlhofeikcaejpaaDoorW.PrintLast

