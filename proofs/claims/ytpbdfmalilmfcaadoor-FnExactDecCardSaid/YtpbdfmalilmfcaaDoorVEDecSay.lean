/- The pure statement of FnExactDec, and the walk: the printed walk of the law's body at arguments that are opened as lists of structs. -/
import Derived.Test.YtpbdfmalilmfcaaDoorVEDecOpens
import Derived.Test.YtpbdfmalilmfcaaDoorVEDecPx1
set_option linter.unusedVariables false
namespace Go.Proofs.YtpbdfmalilmfcaaDoor.SayFnExactDec
open Go.RowKit Go.Proofs.YtpbdfmalilmfcaaDoor.PFnExactDec Go.Proofs.YtpbdfmalilmfcaaDoorW.PrintWords Go.Proofs.YtpbdfmalilmfcaaDoorW.Opens
def Pure : Prop := ∀ (a0 : Int), ((Lit.int .i64 a0).wf = true) → ∃ k, laws_FnExactDec.f k a0 = some true
theorem walk (P : Pure) (a0 : Int) (w : World)  (g0 : (Lit.int .i64 a0).wf = true) (hT_ : PW w) :
    Calls Tryd.prog 3 #[.int .i64 a0] w fun e w' => e = .returned (.bool true) ∧ Below w.heap.size w w' := by
  obtain ⟨k, h⟩ := P a0 g0
  refine (laws_FnExactDec.calls k a0 true w  h hT_).mono ?_
  rintro e w' ⟨rfl, hd⟩
  exact ⟨rfl, hd⟩
end Go.Proofs.YtpbdfmalilmfcaaDoor.SayFnExactDec
