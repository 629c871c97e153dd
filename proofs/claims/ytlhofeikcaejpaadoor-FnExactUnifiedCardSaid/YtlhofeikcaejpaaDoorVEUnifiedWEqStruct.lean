/- WEqStruct, of the words and walks that the law FnExactUnified needs; made by this session's program out of printed texts. -/

import Derived.Test.YtlhofeikcaejpaaDoorVEUnifiedWWords
import Derived.Laws.StructEq
namespace Go.Proofs.YtlhofeikcaejpaaDoorW.PrintWords
open Go.RowKit
section
variable {P : Program} {d : Nat} {xs ys : Array Value} {f : Field} {fs : List Field} {a b : Value} {r s : Bool} {w : World}
end
end Go.Proofs.YtlhofeikcaejpaaDoorW.PrintWords

