/- The pure statement of FnExactUnlex, and the walk: the printed walk of the law's body at arguments that are opened as lists of structs. -/
import Derived.Test.YtlhofeikcaejpaaVEUnlexOpens
import Derived.Test.YtlhofeikcaejpaaVEUnlexPx2
set_option linter.unusedVariables false
namespace Go.Proofs.Ytlhofeikcaejpaa.SayFnExactUnlex
open Go.RowKit Go.Proofs.Ytlhofeikcaejpaa.PFnExactUnlex Go.Proofs.YtlhofeikcaejpaaW.PrintWords Go.Proofs.YtlhofeikcaejpaaW.Opens
def G67 (x : S67) : Prop := ((Lit.int .i64 x.f0).wf = true) ∧ (x.f1.size ≤ 9223372036854775807) ∧ ((Lit.int .i64 x.f2).wf = true) ∧ ((Lit.int .i64 x.f3).wf = true)
theorem opens_k67 : Opens Try.prog 67 k67 G67 :=
  opens_mono (opens_struct (fun x : S67 => (x.f0, x.f1, x.f2, x.f3)) (fun a => ⟨a.1, a.2.1, a.2.2.1, a.2.2.2⟩) (fun _ => rfl) Try.underlying67 (by kernel_rfl) (opensFs_cons rfl (opens_int Try.underlying3 (by kernel_rfl)) (by kernel_rfl) (opensFs_cons rfl (opens_string Try.underlying9 (by kernel_rfl)) (by kernel_rfl) (opensFs_cons rfl (opens_int Try.underlying3 (by kernel_rfl)) (by kernel_rfl) (opensFs_last rfl (opens_int Try.underlying3 (by kernel_rfl))))))) (fun x h => h)
def Pure : Prop := ∀ (l0 : List (S67)), (l0.length ≤ 9223372036854775807 ∧ ∀ y ∈ l0, G67 y) → ∃ k, laws_FnExactUnlex.f k l0 = some true
theorem walk (P : Pure) (A0 : Option Addr) (c0 : Nat) (l0 : List (S67)) (w : World) (hr0 : Kd.C k67 w A0 l0.length l0) (hc0 : l0.length ≤ c0) (g0 : l0.length ≤ 9223372036854775807 ∧ ∀ y ∈ l0, G67 y) :
    Calls Try.prog 4 #[.slice A0 l0.length c0] w fun e w' => e = .returned (.bool true) ∧ Below w.heap.size w w' := by
  obtain ⟨k, h⟩ := P l0 g0
  refine (laws_FnExactUnlex.calls k A0 c0 l0 true w hr0 hc0 h).mono ?_
  rintro e w' ⟨rfl, hd⟩
  exact ⟨rfl, hd⟩
end Go.Proofs.Ytlhofeikcaejpaa.SayFnExactUnlex
