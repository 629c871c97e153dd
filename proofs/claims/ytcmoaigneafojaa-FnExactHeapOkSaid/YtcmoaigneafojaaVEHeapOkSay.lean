/- The pure statement of FnExactHeapOk, and the walk: the printed walk of the law's body at arguments that are opened as lists of structs. -/
import Derived.Test.YtcmoaigneafojaaVEHeapOkOpens
import Derived.Test.YtcmoaigneafojaaVEHeapOkPx8
set_option linter.unusedVariables false
namespace Go.Proofs.Ytcmoaigneafojaa.SayFnExactHeapOk
open Go.RowKit Go.Proofs.Ytcmoaigneafojaa.PFnExactHeapOk Go.Proofs.YtcmoaigneafojaaW.PrintWords Go.Proofs.YtcmoaigneafojaaW.Opens
def G62 (x : S62) : Prop := ((Lit.int .i64 x.f0).wf = true) ∧ ((Lit.int .i64 x.f1).wf = true)
theorem opens_k62 : Opens Try.prog 62 k62 G62 :=
  opens_mono (opens_struct (fun x : S62 => (x.f0, x.f1)) (fun a => ⟨a.1, a.2⟩) (fun _ => rfl) Try.underlying62 (by kernel_rfl) (opensFs_cons rfl (opens_int Try.underlying3 (by kernel_rfl)) (by kernel_rfl) (opensFs_last rfl (opens_int Try.underlying3 (by kernel_rfl))))) (fun x h => h)
def G138 (x : S138) : Prop := ((Lit.int .i64 x.f0).wf = true) ∧ ((Lit.int .i64 x.f1).wf = true) ∧ (G62 x.f2) ∧ ((Lit.int .i64 x.f3).wf = true)
theorem opens_k138 : Opens Try.prog 138 k138 G138 :=
  opens_mono (opens_struct (fun x : S138 => (x.f0, x.f1, x.f2, x.f3)) (fun a => ⟨a.1, a.2.1, a.2.2.1, a.2.2.2⟩) (fun _ => rfl) Try.underlying138 (by kernel_rfl) (opensFs_cons rfl (opens_int Try.underlying3 (by kernel_rfl)) (by kernel_rfl) (opensFs_cons rfl (opens_int Try.underlying3 (by kernel_rfl)) (by kernel_rfl) (opensFs_cons rfl opens_k62 (by kernel_rfl) (opensFs_last rfl (opens_int Try.underlying3 (by kernel_rfl))))))) (fun x h => h)
def G140 (x : S140) : Prop := ((Lit.int .i64 x.f0).wf = true) ∧ ((Lit.int .i64 x.f1).wf = true)
theorem opens_k140 : Opens Try.prog 140 k140 G140 :=
  opens_mono (opens_struct (fun x : S140 => (x.f0, x.f1)) (fun a => ⟨a.1, a.2⟩) (fun _ => rfl) Try.underlying140 (by kernel_rfl) (opensFs_cons rfl (opens_int Try.underlying3 (by kernel_rfl)) (by kernel_rfl) (opensFs_last rfl (opens_int Try.underlying3 (by kernel_rfl))))) (fun x h => h)
def G143 (x : S143) : Prop := (G62 x.f0) ∧ (G62 x.f1)
theorem opens_k143 : Opens Try.prog 143 k143 G143 :=
  opens_mono (opens_struct (fun x : S143 => (x.f0, x.f1)) (fun a => ⟨a.1, a.2⟩) (fun _ => rfl) Try.underlying143 (by kernel_rfl) (opensFs_cons rfl opens_k62 (by kernel_rfl) (opensFs_last rfl opens_k62))) (fun x h => h)
def Pure : Prop := ∀ (l0_0 : List (S138)) (l0_1 : List (S140)) (l0_2 : List (S143)) (l0_3 : List (S62)), (l0_0.length ≤ 9223372036854775807 ∧ ∀ y ∈ l0_0, G138 y) → (l0_1.length ≤ 9223372036854775807 ∧ ∀ y ∈ l0_1, G140 y) → (l0_2.length ≤ 9223372036854775807 ∧ ∀ y ∈ l0_2, G143 y) → (l0_3.length ≤ 9223372036854775807 ∧ ∀ y ∈ l0_3, G62 y) → ∃ k, laws_FnExactHeapOk.f k l0_0 l0_1 l0_2 l0_3 = some true
theorem walk (P : Pure) (A0_0 : Option Addr) (c0_0 : Nat) (l0_0 : List (S138)) (A0_1 : Option Addr) (c0_1 : Nat) (l0_1 : List (S140)) (A0_2 : Option Addr) (c0_2 : Nat) (l0_2 : List (S143)) (A0_3 : Option Addr) (c0_3 : Nat) (l0_3 : List (S62)) (w : World) (hr0_0 : Kd.C k138 w A0_0 l0_0.length l0_0) (hc0_0 : l0_0.length ≤ c0_0) (hr0_1 : Kd.C k140 w A0_1 l0_1.length l0_1) (hc0_1 : l0_1.length ≤ c0_1) (hr0_2 : Kd.C k143 w A0_2 l0_2.length l0_2) (hc0_2 : l0_2.length ≤ c0_2) (hr0_3 : Kd.C k62 w A0_3 l0_3.length l0_3) (hc0_3 : l0_3.length ≤ c0_3) (g0 : l0_0.length ≤ 9223372036854775807 ∧ ∀ y ∈ l0_0, G138 y) (g1 : l0_1.length ≤ 9223372036854775807 ∧ ∀ y ∈ l0_1, G140 y) (g2 : l0_2.length ≤ 9223372036854775807 ∧ ∀ y ∈ l0_2, G143 y) (g3 : l0_3.length ≤ 9223372036854775807 ∧ ∀ y ∈ l0_3, G62 y) :
    Calls Try.prog 10 #[.agg #[.slice A0_0 l0_0.length c0_0, .slice A0_1 l0_1.length c0_1, .slice A0_2 l0_2.length c0_2, .slice A0_3 l0_3.length c0_3]] w fun e w' => e = .returned (.bool true) ∧ Below w.heap.size w w' := by
  obtain ⟨k, h⟩ := P l0_0 l0_1 l0_2 l0_3 g0 g1 g2 g3
  refine (laws_FnExactHeapOk.calls k A0_0 c0_0 l0_0 A0_1 c0_1 l0_1 A0_2 c0_2 l0_2 A0_3 c0_3 l0_3 true w hr0_0 hc0_0 hr0_1 hc0_1 hr0_2 hc0_2 hr0_3 hc0_3 h).mono ?_
  rintro e w' ⟨rfl, hd⟩
  exact ⟨rfl, hd⟩
end Go.Proofs.Ytcmoaigneafojaa.SayFnExactHeapOk
