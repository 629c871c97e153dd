/- WGuard, of the words and walks that the law FnExactDec needs; made by this session's program out of printed texts. -/

import Derived.Test.YtpbdfmalilmfcaaDoorVEDecWWords
namespace Go.Proofs.YtpbdfmalilmfcaaDoorW.PrintWords
open Go.RowKit
section
variable {P : Program} {ops : Array Oper} {rest : List Oper} {o : Oper} {a : Act} {Q : Exit → Act → World → Prop} {W : World}
end
end Go.Proofs.YtpbdfmalilmfcaaDoorW.PrintWords

