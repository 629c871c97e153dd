/- The pure statement of FnExactSameNodes, and the walk: the printed walk of the law's body at arguments that are opened as lists of structs. -/
import Derived.Test.YtimcbgonfjdgfaaOpens
import Derived.Test.YtimcbgonfjdgfaaPFnExactSameNodesx3
set_option linter.unusedVariables false
namespace Go.Proofs.Ytimcbgonfjdgfaa.SayFnExactSameNodes
open Go.RowKit Go.Proofs.Ytimcbgonfjdgfaa.PFnExactSameNodes Go.Proofs.YtimcbgonfjdgfaaW.PrintWords Go.Proofs.YtimcbgonfjdgfaaW.Opens
def G38 (x : S38) : Prop := ((Lit.int .i64 x.f0).wf = true) ∧ ((Lit.int .i64 x.f1).wf = true) ∧ ((Lit.int .i64 x.f2).wf = true) ∧ ((Lit.int .i64 x.f3).wf = true) ∧ ((Lit.int .i64 x.f4).wf = true) ∧ (x.f5.size ≤ 9223372036854775807) ∧ (x.f6.size ≤ 9223372036854775807)
theorem opens_k38 : Opens Try.prog 38 k38 G38 :=
  opens_mono (opens_struct (fun x : S38 => (x.f0, x.f1, x.f2, x.f3, x.f4, x.f5, x.f6)) (fun a => ⟨a.1, a.2.1, a.2.2.1, a.2.2.2.1, a.2.2.2.2.1, a.2.2.2.2.2.1, a.2.2.2.2.2.2⟩) (fun _ => rfl) Try.underlying38 (by kernel_rfl) (opensFs_cons rfl (opens_int Try.underlying3 (by kernel_rfl)) (by kernel_rfl) (opensFs_cons rfl (opens_int Try.underlying3 (by kernel_rfl)) (by kernel_rfl) (opensFs_cons rfl (opens_int Try.underlying3 (by kernel_rfl)) (by kernel_rfl) (opensFs_cons rfl (opens_int Try.underlying3 (by kernel_rfl)) (by kernel_rfl) (opensFs_cons rfl (opens_int Try.underlying3 (by kernel_rfl)) (by kernel_rfl) (opensFs_cons rfl (opens_string Try.underlying9 (by kernel_rfl)) (by kernel_rfl) (opensFs_last rfl (opens_string Try.underlying9 (by kernel_rfl)))))))))) (fun x h => h)
def Pure : Prop := ∀ (l0 : List (S38)) (l1 : List (S38)), (l0.length ≤ 9223372036854775807 ∧ ∀ y ∈ l0, G38 y) → (l1.length ≤ 9223372036854775807 ∧ ∀ y ∈ l1, G38 y) → ∃ k, laws_FnExactSameNodes.f k l0 l1 = some true
theorem walk (P : Pure) (A0 : Option Addr) (c0 : Nat) (l0 : List (S38)) (A1 : Option Addr) (c1 : Nat) (l1 : List (S38)) (w : World) (hr0 : Kd.C k38 w A0 l0.length l0) (hc0 : l0.length ≤ c0) (hr1 : Kd.C k38 w A1 l1.length l1) (hc1 : l1.length ≤ c1) (g0 : l0.length ≤ 9223372036854775807 ∧ ∀ y ∈ l0, G38 y) (g1 : l1.length ≤ 9223372036854775807 ∧ ∀ y ∈ l1, G38 y) :
    Calls Try.prog 14 #[.slice A0 l0.length c0, .slice A1 l1.length c1] w fun e w' => e = .returned (.bool true) ∧ Below w.heap.size w w' := by
  obtain ⟨k, h⟩ := P l0 l1 g0 g1
  refine (laws_FnExactSameNodes.calls k A0 c0 l0 A1 c1 l1 true w hr0 hc0 hr1 hc1 h).mono ?_
  rintro e w' ⟨rfl, hd⟩
  exact ⟨rfl, hd⟩
end Go.Proofs.Ytimcbgonfjdgfaa.SayFnExactSameNodes
