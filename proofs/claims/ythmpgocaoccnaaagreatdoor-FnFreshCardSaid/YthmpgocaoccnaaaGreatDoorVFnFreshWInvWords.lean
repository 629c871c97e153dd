/- WInvWords, of the words and walks that the law FnFresh needs; made by this session's program out of printed texts. -/
import Derived.Test.YthmpgocaoccnaaaGreatDoorVFnFreshWInv
import Derived.Test.YthmpgocaoccnaaaGreatDoorVFnFreshWFootNe
namespace Go.Proofs.YthmpgocaoccnaaaGreatDoorW.PrintWords
open Go.RowKit
end Go.Proofs.YthmpgocaoccnaaaGreatDoorW.PrintWords
namespace Go.Proofs.YthmpgocaoccnaaaGreatDoorW.PrintLast
section
variable {ops:Array Oper} {a:Act} {o og:Oper} {g:Nat} {t:Tmp} {u:Bool}
end
end Go.Proofs.YthmpgocaoccnaaaGreatDoorW.PrintLast
