/- The pure statement of FnExactIsKey, and the walk: the printed walk of the law's body at arguments that are opened as lists of structs. -/
import Derived.Test.YtcmoaigneafojaaDoorOpens
import Derived.Test.YtcmoaigneafojaaDoorPFnExactIsKeyx1
set_option linter.unusedVariables false
namespace Go.Proofs.YtcmoaigneafojaaDoor.SayFnExactIsKey
open Go.RowKit Go.Proofs.YtcmoaigneafojaaDoor.PFnExactIsKey Go.Proofs.YtcmoaigneafojaaDoorW.PrintWords Go.Proofs.YtcmoaigneafojaaDoorW.Opens
def Pure : Prop := ∀ (a0 : ByteArray), (a0.size ≤ 9223372036854775807) → ∃ k, laws_FnExactIsKey.f k a0 = some true
theorem walk (P : Pure) (a0 : ByteArray) (w : World)  (g0 : a0.size ≤ 9223372036854775807) :
    Calls Tryd.prog 5 #[.string a0] w fun e w' => e = .returned (.bool true) ∧ Below w.heap.size w w' := by
  obtain ⟨k, h⟩ := P a0 g0
  refine (laws_FnExactIsKey.calls k a0 true w  h).mono ?_
  rintro e w' ⟨rfl, hd⟩
  exact ⟨rfl, hd⟩
end Go.Proofs.YtcmoaigneafojaaDoor.SayFnExactIsKey
