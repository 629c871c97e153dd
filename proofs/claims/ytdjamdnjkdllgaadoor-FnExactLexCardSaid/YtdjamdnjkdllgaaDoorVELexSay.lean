/- The pure statement of FnExactLex, and the walk: the printed walk of the law's body at arguments that are opened as lists of structs. -/
import Derived.Test.YtdjamdnjkdllgaaDoorVELexOpens
import Derived.Test.YtdjamdnjkdllgaaDoorVELexPx7
set_option linter.unusedVariables false
namespace Go.Proofs.YtdjamdnjkdllgaaDoor.SayFnExactLex
open Go.RowKit Go.Proofs.YtdjamdnjkdllgaaDoor.PFnExactLex Go.Proofs.YtdjamdnjkdllgaaDoorW.PrintWords Go.Proofs.YtdjamdnjkdllgaaDoorW.Opens
def Pure : Prop := ∀ (a0 : ByteArray), (a0.size ≤ 9223372036854775807) → ∃ k, laws_FnExactLex.f k a0 = some true
theorem walk (P : Pure) (a0 : ByteArray) (w : World)  (g0 : a0.size ≤ 9223372036854775807) (hT_ : PW w) :
    Calls Tryd.prog 5 #[.string a0] w fun e w' => e = .returned (.bool true) ∧ Below w.heap.size w w' := by
  obtain ⟨k, h⟩ := P a0 g0
  refine (laws_FnExactLex.calls k a0 true w  h hT_).mono ?_
  rintro e w' ⟨rfl, hd⟩
  exact ⟨rfl, hd⟩
end Go.Proofs.YtdjamdnjkdllgaaDoor.SayFnExactLex
