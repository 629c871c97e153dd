/- The pure statement of FnExactKids, and the walk: the printed walk of the law's body at arguments that are opened as lists of structs. -/
import Derived.Test.YtlhofeikcaejpaaVEKidsOpens
import Derived.Test.YtlhofeikcaejpaaVEKidsPx3
set_option linter.unusedVariables false
namespace Go.Proofs.Ytlhofeikcaejpaa.SayFnExactKids
open Go.RowKit Go.Proofs.Ytlhofeikcaejpaa.PFnExactKids Go.Proofs.YtlhofeikcaejpaaW.PrintWords Go.Proofs.YtlhofeikcaejpaaW.Opens
def Pure : Prop := ∀ (a0_0 : Int) (a0_1 : Int) (a0_2 : Int) (a0_3 : Int) (a0_4 : Int) (a0_5 : ByteArray) (a0_6 : ByteArray), ((Lit.int .i64 a0_0).wf = true) → ((Lit.int .i64 a0_1).wf = true) → ((Lit.int .i64 a0_2).wf = true) → ((Lit.int .i64 a0_3).wf = true) → ((Lit.int .i64 a0_4).wf = true) → (a0_5.size ≤ 9223372036854775807) → (a0_6.size ≤ 9223372036854775807) → ∃ k, laws_FnExactKids.f k a0_0 a0_1 a0_2 a0_3 a0_4 a0_5 a0_6 = some true
theorem walk (P : Pure) (a0_0 : Int) (a0_1 : Int) (a0_2 : Int) (a0_3 : Int) (a0_4 : Int) (a0_5 : ByteArray) (a0_6 : ByteArray) (w : World)  (g0 : (Lit.int .i64 a0_0).wf = true) (g1 : (Lit.int .i64 a0_1).wf = true) (g2 : (Lit.int .i64 a0_2).wf = true) (g3 : (Lit.int .i64 a0_3).wf = true) (g4 : (Lit.int .i64 a0_4).wf = true) (g5 : a0_5.size ≤ 9223372036854775807) (g6 : a0_6.size ≤ 9223372036854775807) :
    Calls Try.prog 3 #[.agg #[.int .i64 a0_0, .int .i64 a0_1, .int .i64 a0_2, .int .i64 a0_3, .int .i64 a0_4, .string a0_5, .string a0_6]] w fun e w' => e = .returned (.bool true) ∧ Below w.heap.size w w' := by
  obtain ⟨k, h⟩ := P a0_0 a0_1 a0_2 a0_3 a0_4 a0_5 a0_6 g0 g1 g2 g3 g4 g5 g6
  refine (laws_FnExactKids.calls k a0_0 a0_1 a0_2 a0_3 a0_4 a0_5 a0_6 true w  h).mono ?_
  rintro e w' ⟨rfl, hd⟩
  exact ⟨rfl, hd⟩
end Go.Proofs.Ytlhofeikcaejpaa.SayFnExactKids
