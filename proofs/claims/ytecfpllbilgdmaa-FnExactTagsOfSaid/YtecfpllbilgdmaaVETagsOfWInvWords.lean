/- WInvWords, of the words and walks that the law FnExactTagsOf needs; made by this session's program out of printed texts. -/

import Derived.Test.YtecfpllbilgdmaaVETagsOfWInv
import Derived.Test.YtecfpllbilgdmaaVETagsOfWFootNe
namespace Go.Proofs.YtecfpllbilgdmaaW.PrintWords
open Go.RowKit
end Go.Proofs.YtecfpllbilgdmaaW.PrintWords
namespace Go.Proofs.YtecfpllbilgdmaaW.PrintLast
section
variable {ops : Array Oper} {a : Act} {o og : Oper} {g : Nat} {t : Tmp} {u : Bool}
end
end Go.Proofs.YtecfpllbilgdmaaW.PrintLast

