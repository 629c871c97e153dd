/- Every constant is the reference's: the law runs through its tests. -/
import Derived.Test.YtimcbgonfjdgfaaPFnExactConstantsx1
import Derived.Laws.Strings
import Derived.Laws.BitsLemmas
set_option linter.unusedVariables false
set_option linter.unusedSimpArgs false
namespace Go.Proofs.Ytimcbgonfjdgfaa.Pure
open Go.RowKit Go.Proofs.Ytimcbgonfjdgfaa.PFnExactConstants Go.Proofs.YtimcbgonfjdgfaaW.PrintWords Go.Proofs.YtimcbgonfjdgfaaW.PrintLast

/-- Every constant is the reference's: the law runs through its tests. -/
theorem FnExactConstants : laws_FnExactConstants.Pure := rfl

end Go.Proofs.Ytimcbgonfjdgfaa.Pure
