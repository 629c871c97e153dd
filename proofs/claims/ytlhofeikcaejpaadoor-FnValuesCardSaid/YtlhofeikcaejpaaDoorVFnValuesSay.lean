/- The pure statement of FnValues, and the walk: the printed walk of the law's body at arguments that are opened as lists of structs. -/
import Derived.Test.YtlhofeikcaejpaaDoorVFnValuesOpens
import Derived.Test.YtlhofeikcaejpaaDoorVFnValuesPx10
set_option linter.unusedVariables false
namespace Go.Proofs.YtlhofeikcaejpaaDoor.SayFnValues
open Go.RowKit Go.Proofs.YtlhofeikcaejpaaDoor.PFnValues Go.Proofs.YtlhofeikcaejpaaDoorW.PrintWords Go.Proofs.YtlhofeikcaejpaaDoorW.Opens
def Pure : Prop := ∀ (l0 : List (Int)), (l0.length ≤ 9223372036854775807 ∧ ∀ y ∈ l0, (Lit.int .u8 y).wf = true) → ∃ k, laws_FnValues.f k l0 = some true
theorem walk (P : Pure) (A0 : Option Addr) (c0 : Nat) (l0 : List Int) (w : World) (hr0 : Kd.C (Kd.int .u8) w A0 l0.length l0) (hc0 : l0.length ≤ c0) (g0 : l0.length ≤ 9223372036854775807 ∧ ∀ y ∈ l0, (Lit.int .u8 y).wf = true) (hT_ : PW w) :
    Calls Tryd.prog 3 #[.slice A0 l0.length c0] w fun e w' => e = .returned (.bool true) ∧ Below w.heap.size w w' := by
  obtain ⟨k, h⟩ := P l0 g0
  refine (laws_FnValues.calls k A0 c0 l0 true w hr0 hc0 h hT_).mono ?_
  rintro e w' ⟨rfl, hd⟩
  exact ⟨rfl, hd⟩
end Go.Proofs.YtlhofeikcaejpaaDoor.SayFnValues
