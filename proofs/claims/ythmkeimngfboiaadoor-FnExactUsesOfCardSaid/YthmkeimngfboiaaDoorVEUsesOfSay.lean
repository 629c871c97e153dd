/- The pure statement of FnExactUsesOf, and the walk: the printed walk of the law's body at arguments that are opened as lists of structs. -/
import Derived.Test.YthmkeimngfboiaaDoorVEUsesOfOpens
import Derived.Test.YthmkeimngfboiaaDoorVEUsesOfPx18
set_option linter.unusedVariables false
namespace Go.Proofs.YthmkeimngfboiaaDoor.SayFnExactUsesOf
open Go.RowKit Go.Proofs.YthmkeimngfboiaaDoor.PFnExactUsesOf Go.Proofs.YthmkeimngfboiaaDoorW.PrintWords Go.Proofs.YthmkeimngfboiaaDoorW.Opens
def G50 (x : S50) : Prop := ((Lit.int .i64 x.f0).wf = true) ∧ ((Lit.int .i64 x.f1).wf = true) ∧ ((Lit.int .i64 x.f2).wf = true) ∧ ((Lit.int .i64 x.f3).wf = true) ∧ ((Lit.int .i64 x.f4).wf = true) ∧ (x.f5.size ≤ 9223372036854775807) ∧ (x.f6.size ≤ 9223372036854775807)
theorem opens_k50 : Opens Tryd.prog 50 k50 G50 :=
  opens_mono (opens_struct (fun x : S50 => (x.f0, x.f1, x.f2, x.f3, x.f4, x.f5, x.f6)) (fun a => ⟨a.1, a.2.1, a.2.2.1, a.2.2.2.1, a.2.2.2.2.1, a.2.2.2.2.2.1, a.2.2.2.2.2.2⟩) (fun _ => rfl) Tryd.underlying50 (by kernel_rfl) (opensFs_cons rfl (opens_int Tryd.underlying3 (by kernel_rfl)) (by kernel_rfl) (opensFs_cons rfl (opens_int Tryd.underlying3 (by kernel_rfl)) (by kernel_rfl) (opensFs_cons rfl (opens_int Tryd.underlying3 (by kernel_rfl)) (by kernel_rfl) (opensFs_cons rfl (opens_int Tryd.underlying3 (by kernel_rfl)) (by kernel_rfl) (opensFs_cons rfl (opens_int Tryd.underlying3 (by kernel_rfl)) (by kernel_rfl) (opensFs_cons rfl (opens_string Tryd.underlying9 (by kernel_rfl)) (by kernel_rfl) (opensFs_last rfl (opens_string Tryd.underlying9 (by kernel_rfl)))))))))) (fun x h => h)
def Pure : Prop := ∀ (l0 : List (S50)) (a1_0 : Int) (a1_1 : Int), (l0.length ≤ 9223372036854775807 ∧ ∀ y ∈ l0, G50 y) → ((Lit.int .i64 a1_0).wf = true) → ((Lit.int .i64 a1_1).wf = true) → ∃ k, laws_FnExactUsesOf.f k l0 a1_0 a1_1 = some true
theorem walk (P : Pure) (A0 : Option Addr) (c0 : Nat) (l0 : List (S50)) (a1_0 : Int) (a1_1 : Int) (w : World) (hr0 : Kd.C k50 w A0 l0.length l0) (hc0 : l0.length ≤ c0) (g0 : l0.length ≤ 9223372036854775807 ∧ ∀ y ∈ l0, G50 y) (g1 : (Lit.int .i64 a1_0).wf = true) (g2 : (Lit.int .i64 a1_1).wf = true) :
    Calls Tryd.prog 10 #[.slice A0 l0.length c0, .agg #[.int .i64 a1_0, .int .i64 a1_1]] w fun e w' => e = .returned (.bool true) ∧ Below w.heap.size w w' := by
  obtain ⟨k, h⟩ := P l0 a1_0 a1_1 g0 g1 g2
  refine (laws_FnExactUsesOf.calls k A0 c0 l0 a1_0 a1_1 true w hr0 hc0 h).mono ?_
  rintro e w' ⟨rfl, hd⟩
  exact ⟨rfl, hd⟩
end Go.Proofs.YthmkeimngfboiaaDoor.SayFnExactUsesOf
