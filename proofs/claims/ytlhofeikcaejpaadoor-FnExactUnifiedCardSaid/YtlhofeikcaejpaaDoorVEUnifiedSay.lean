/- The pure statement of FnExactUnified, and the walk: the printed walk of the law's body at arguments that are opened as lists of structs. -/
import Derived.Test.YtlhofeikcaejpaaDoorVEUnifiedOpens
import Derived.Test.YtlhofeikcaejpaaDoorVEUnifiedPx12
set_option linter.unusedVariables false
namespace Go.Proofs.YtlhofeikcaejpaaDoor.SayFnExactUnified
open Go.RowKit Go.Proofs.YtlhofeikcaejpaaDoor.PFnExactUnified Go.Proofs.YtlhofeikcaejpaaDoorW.PrintWords Go.Proofs.YtlhofeikcaejpaaDoorW.Opens
def G99 (x : S99) : Prop := ((Lit.int .i64 x.f0).wf = true) ∧ ((Lit.int .i64 x.f1).wf = true) ∧ ((Lit.int .i64 x.f2).wf = true)
theorem opens_k99 : Opens Tryd.prog 99 k99 G99 :=
  opens_mono (opens_struct (fun x : S99 => (x.f0, x.f1, x.f2)) (fun a => ⟨a.1, a.2.1, a.2.2⟩) (fun _ => rfl) Tryd.underlying99 (by kernel_rfl) (opensFs_cons rfl (opens_int Tryd.underlying3 (by kernel_rfl)) (by kernel_rfl) (opensFs_cons rfl (opens_int Tryd.underlying3 (by kernel_rfl)) (by kernel_rfl) (opensFs_last rfl (opens_int Tryd.underlying3 (by kernel_rfl)))))) (fun x h => h)
def Pure : Prop := ∀ (l0 : List (S99)) (a1 : Int) (a2 : Int), (l0.length ≤ 9223372036854775807 ∧ ∀ y ∈ l0, G99 y) → ((Lit.int .i64 a1).wf = true) → ((Lit.int .i64 a2).wf = true) → ∃ k, laws_FnExactUnified.f k l0 a1 a2 = some true
theorem walk (P : Pure) (A0 : Option Addr) (c0 : Nat) (l0 : List (S99)) (a1 : Int) (a2 : Int) (w : World) (hr0 : Kd.C k99 w A0 l0.length l0) (hc0 : l0.length ≤ c0) (g0 : l0.length ≤ 9223372036854775807 ∧ ∀ y ∈ l0, G99 y) (g1 : (Lit.int .i64 a1).wf = true) (g2 : (Lit.int .i64 a2).wf = true) (hT_ : PW w) :
    Calls Tryd.prog 8 #[.slice A0 l0.length c0, .int .i64 a1, .int .i64 a2] w fun e w' => e = .returned (.bool true) ∧ Below w.heap.size w w' := by
  obtain ⟨k, h⟩ := P l0 a1 a2 g0 g1 g2
  refine (laws_FnExactUnified.calls k A0 c0 l0 a1 a2 true w hr0 hc0 h hT_).mono ?_
  rintro e w' ⟨rfl, hd⟩
  exact ⟨rfl, hd⟩
end Go.Proofs.YtlhofeikcaejpaaDoor.SayFnExactUnified
