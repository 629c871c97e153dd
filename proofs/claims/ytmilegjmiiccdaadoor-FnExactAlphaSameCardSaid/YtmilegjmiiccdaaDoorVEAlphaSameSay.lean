/- The pure statement of FnExactAlphaSame, and the walk: the printed walk of the law's body at arguments that are opened as lists of structs. -/
import Derived.Test.YtmilegjmiiccdaaDoorVEAlphaSameOpens
import Derived.Test.YtmilegjmiiccdaaDoorVEAlphaSamePx23
set_option linter.unusedVariables false
namespace Go.Proofs.YtmilegjmiiccdaaDoor.SayFnExactAlphaSame
open Go.RowKit Go.Proofs.YtmilegjmiiccdaaDoor.PFnExactAlphaSame Go.Proofs.YtmilegjmiiccdaaDoorW.PrintWords Go.Proofs.YtmilegjmiiccdaaDoorW.Opens
def G42 (x : S42) : Prop := ((Lit.int .i64 x.f0).wf = true) ∧ ((Lit.int .i64 x.f1).wf = true) ∧ ((Lit.int .i64 x.f2).wf = true) ∧ ((Lit.int .i64 x.f3).wf = true) ∧ ((Lit.int .i64 x.f4).wf = true) ∧ (x.f5.size ≤ 9223372036854775807) ∧ (x.f6.size ≤ 9223372036854775807)
theorem opens_k42 : Opens Tryd.prog 42 k42 G42 :=
  opens_mono (opens_struct (fun x : S42 => (x.f0, x.f1, x.f2, x.f3, x.f4, x.f5, x.f6)) (fun a => ⟨a.1, a.2.1, a.2.2.1, a.2.2.2.1, a.2.2.2.2.1, a.2.2.2.2.2.1, a.2.2.2.2.2.2⟩) (fun _ => rfl) Tryd.underlying42 (by kernel_rfl) (opensFs_cons rfl (opens_int Tryd.underlying3 (by kernel_rfl)) (by kernel_rfl) (opensFs_cons rfl (opens_int Tryd.underlying3 (by kernel_rfl)) (by kernel_rfl) (opensFs_cons rfl (opens_int Tryd.underlying3 (by kernel_rfl)) (by kernel_rfl) (opensFs_cons rfl (opens_int Tryd.underlying3 (by kernel_rfl)) (by kernel_rfl) (opensFs_cons rfl (opens_int Tryd.underlying3 (by kernel_rfl)) (by kernel_rfl) (opensFs_cons rfl (opens_string Tryd.underlying9 (by kernel_rfl)) (by kernel_rfl) (opensFs_last rfl (opens_string Tryd.underlying9 (by kernel_rfl)))))))))) (fun x h => h)
def Pure : Prop := ∀ (l0 : List (S42)) (l1 : List (S42)), (l0.length ≤ 9223372036854775807 ∧ ∀ y ∈ l0, G42 y) → (l1.length ≤ 9223372036854775807 ∧ ∀ y ∈ l1, G42 y) → ∃ k, laws_FnExactAlphaSame.f k l0 l1 = some true
theorem walk (P : Pure) (A0 : Option Addr) (c0 : Nat) (l0 : List (S42)) (A1 : Option Addr) (c1 : Nat) (l1 : List (S42)) (w : World) (hr0 : Kd.C k42 w A0 l0.length l0) (hc0 : l0.length ≤ c0) (hr1 : Kd.C k42 w A1 l1.length l1) (hc1 : l1.length ≤ c1) (g0 : l0.length ≤ 9223372036854775807 ∧ ∀ y ∈ l0, G42 y) (g1 : l1.length ≤ 9223372036854775807 ∧ ∀ y ∈ l1, G42 y) :
    Calls Tryd.prog 8 #[.slice A0 l0.length c0, .slice A1 l1.length c1] w fun e w' => e = .returned (.bool true) ∧ Below w.heap.size w w' := by
  obtain ⟨k, h⟩ := P l0 l1 g0 g1
  refine (laws_FnExactAlphaSame.calls k A0 c0 l0 A1 c1 l1 true w hr0 hc0 hr1 hc1 h).mono ?_
  rintro e w' ⟨rfl, hd⟩
  exact ⟨rfl, hd⟩
end Go.Proofs.YtmilegjmiiccdaaDoor.SayFnExactAlphaSame
