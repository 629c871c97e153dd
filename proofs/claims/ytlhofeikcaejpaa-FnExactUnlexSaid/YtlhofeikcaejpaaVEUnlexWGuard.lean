/- WGuard, of the words and walks that the law FnExactUnlex needs; made by this session's program out of printed texts. -/

import Derived.Test.YtlhofeikcaejpaaVEUnlexWWords
namespace Go.Proofs.YtlhofeikcaejpaaW.PrintWords
open Go.RowKit
section
variable {P : Program} {ops : Array Oper} {rest : List Oper} {o : Oper} {a : Act} {Q : Exit → Act → World → Prop} {W : World}
end
end Go.Proofs.YtlhofeikcaejpaaW.PrintWords

