/- The pure statement of FnExactCodeWord, and the walk: the printed walk of the law's body at arguments that are opened as lists of structs. -/
import Derived.Test.YtcmoaigneafojaaDoorOpens
import Derived.Test.YtcmoaigneafojaaDoorPFnExactCodeWordx1
set_option linter.unusedVariables false
namespace Go.Proofs.YtcmoaigneafojaaDoor.SayFnExactCodeWord
open Go.RowKit Go.Proofs.YtcmoaigneafojaaDoor.PFnExactCodeWord Go.Proofs.YtcmoaigneafojaaDoorW.PrintWords Go.Proofs.YtcmoaigneafojaaDoorW.Opens
def Pure : Prop := ∀ (a0 : Int), ((Lit.int .i64 a0).wf = true) → ∃ k, laws_FnExactCodeWord.f k a0 = some true
theorem walk (P : Pure) (a0 : Int) (w : World)  (g0 : (Lit.int .i64 a0).wf = true) :
    Calls Tryd.prog 4 #[.int .i64 a0] w fun e w' => e = .returned (.bool true) ∧ Below w.heap.size w w' := by
  obtain ⟨k, h⟩ := P a0 g0
  refine (laws_FnExactCodeWord.calls k a0 true w  h).mono ?_
  rintro e w' ⟨rfl, hd⟩
  exact ⟨rfl, hd⟩
end Go.Proofs.YtcmoaigneafojaaDoor.SayFnExactCodeWord
