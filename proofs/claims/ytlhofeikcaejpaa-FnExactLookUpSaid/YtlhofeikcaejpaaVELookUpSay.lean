/- The pure statement of FnExactLookUp, and the walk: the printed walk of the law's body at arguments that are opened as lists of structs. -/
import Derived.Test.YtlhofeikcaejpaaVELookUpOpens
import Derived.Test.YtlhofeikcaejpaaVELookUpPx9
set_option linter.unusedVariables false
namespace Go.Proofs.Ytlhofeikcaejpaa.SayFnExactLookUp
open Go.RowKit Go.Proofs.Ytlhofeikcaejpaa.PFnExactLookUp Go.Proofs.YtlhofeikcaejpaaW.PrintWords Go.Proofs.YtlhofeikcaejpaaW.Opens
def G104 (x : S104) : Prop := ((Lit.int .i64 x.f0).wf = true) ∧ ((Lit.int .i64 x.f1).wf = true)
theorem opens_k104 : Opens Try.prog 104 k104 G104 :=
  opens_mono (opens_struct (fun x : S104 => (x.f0, x.f1)) (fun a => ⟨a.1, a.2⟩) (fun _ => rfl) Try.underlying104 (by kernel_rfl) (opensFs_cons rfl (opens_int Try.underlying3 (by kernel_rfl)) (by kernel_rfl) (opensFs_last rfl (opens_int Try.underlying3 (by kernel_rfl))))) (fun x h => h)
def G106 (x : S106) : Prop := ((Lit.int .i64 x.f0).wf = true) ∧ ((Lit.int .i64 x.f1).wf = true) ∧ (G104 x.f2) ∧ ((Lit.int .i64 x.f3).wf = true)
theorem opens_k106 : Opens Try.prog 106 k106 G106 :=
  opens_mono (opens_struct (fun x : S106 => (x.f0, x.f1, x.f2, x.f3)) (fun a => ⟨a.1, a.2.1, a.2.2.1, a.2.2.2⟩) (fun _ => rfl) Try.underlying106 (by kernel_rfl) (opensFs_cons rfl (opens_int Try.underlying3 (by kernel_rfl)) (by kernel_rfl) (opensFs_cons rfl (opens_int Try.underlying3 (by kernel_rfl)) (by kernel_rfl) (opensFs_cons rfl opens_k104 (by kernel_rfl) (opensFs_last rfl (opens_int Try.underlying3 (by kernel_rfl))))))) (fun x h => h)
def G108 (x : S108) : Prop := ((Lit.int .i64 x.f0).wf = true) ∧ ((Lit.int .i64 x.f1).wf = true)
theorem opens_k108 : Opens Try.prog 108 k108 G108 :=
  opens_mono (opens_struct (fun x : S108 => (x.f0, x.f1)) (fun a => ⟨a.1, a.2⟩) (fun _ => rfl) Try.underlying108 (by kernel_rfl) (opensFs_cons rfl (opens_int Try.underlying3 (by kernel_rfl)) (by kernel_rfl) (opensFs_last rfl (opens_int Try.underlying3 (by kernel_rfl))))) (fun x h => h)
def G111 (x : S111) : Prop := (G104 x.f0) ∧ (G104 x.f1)
theorem opens_k111 : Opens Try.prog 111 k111 G111 :=
  opens_mono (opens_struct (fun x : S111 => (x.f0, x.f1)) (fun a => ⟨a.1, a.2⟩) (fun _ => rfl) Try.underlying111 (by kernel_rfl) (opensFs_cons rfl opens_k104 (by kernel_rfl) (opensFs_last rfl opens_k104))) (fun x h => h)
def Pure : Prop := ∀ (l0_0 : List (S106)) (l0_1 : List (S108)) (l0_2 : List (S111)) (l0_3 : List (S104)) (a1 : Int) (a2_0 : Int) (a2_1 : Int), (l0_0.length ≤ 9223372036854775807 ∧ ∀ y ∈ l0_0, G106 y) → (l0_1.length ≤ 9223372036854775807 ∧ ∀ y ∈ l0_1, G108 y) → (l0_2.length ≤ 9223372036854775807 ∧ ∀ y ∈ l0_2, G111 y) → (l0_3.length ≤ 9223372036854775807 ∧ ∀ y ∈ l0_3, G104 y) → ((Lit.int .i64 a1).wf = true) → ((Lit.int .i64 a2_0).wf = true) → ((Lit.int .i64 a2_1).wf = true) → ∃ k, laws_FnExactLookUp.f k l0_0 l0_1 l0_2 l0_3 a1 a2_0 a2_1 = some true
theorem walk (P : Pure) (A0_0 : Option Addr) (c0_0 : Nat) (l0_0 : List (S106)) (A0_1 : Option Addr) (c0_1 : Nat) (l0_1 : List (S108)) (A0_2 : Option Addr) (c0_2 : Nat) (l0_2 : List (S111)) (A0_3 : Option Addr) (c0_3 : Nat) (l0_3 : List (S104)) (a1 : Int) (a2_0 : Int) (a2_1 : Int) (w : World) (hr0_0 : Kd.C k106 w A0_0 l0_0.length l0_0) (hc0_0 : l0_0.length ≤ c0_0) (hr0_1 : Kd.C k108 w A0_1 l0_1.length l0_1) (hc0_1 : l0_1.length ≤ c0_1) (hr0_2 : Kd.C k111 w A0_2 l0_2.length l0_2) (hc0_2 : l0_2.length ≤ c0_2) (hr0_3 : Kd.C k104 w A0_3 l0_3.length l0_3) (hc0_3 : l0_3.length ≤ c0_3) (g0 : l0_0.length ≤ 9223372036854775807 ∧ ∀ y ∈ l0_0, G106 y) (g1 : l0_1.length ≤ 9223372036854775807 ∧ ∀ y ∈ l0_1, G108 y) (g2 : l0_2.length ≤ 9223372036854775807 ∧ ∀ y ∈ l0_2, G111 y) (g3 : l0_3.length ≤ 9223372036854775807 ∧ ∀ y ∈ l0_3, G104 y) (g4 : (Lit.int .i64 a1).wf = true) (g5 : (Lit.int .i64 a2_0).wf = true) (g6 : (Lit.int .i64 a2_1).wf = true) :
    Calls Try.prog 5 #[.agg #[.slice A0_0 l0_0.length c0_0, .slice A0_1 l0_1.length c0_1, .slice A0_2 l0_2.length c0_2, .slice A0_3 l0_3.length c0_3], .int .i64 a1, .agg #[.int .i64 a2_0, .int .i64 a2_1]] w fun e w' => e = .returned (.bool true) ∧ Below w.heap.size w w' := by
  obtain ⟨k, h⟩ := P l0_0 l0_1 l0_2 l0_3 a1 a2_0 a2_1 g0 g1 g2 g3 g4 g5 g6
  refine (laws_FnExactLookUp.calls k A0_0 c0_0 l0_0 A0_1 c0_1 l0_1 A0_2 c0_2 l0_2 A0_3 c0_3 l0_3 a1 a2_0 a2_1 true w hr0_0 hc0_0 hr0_1 hc0_1 hr0_2 hc0_2 hr0_3 hc0_3 h).mono ?_
  rintro e w' ⟨rfl, hd⟩
  exact ⟨rfl, hd⟩
end Go.Proofs.Ytlhofeikcaejpaa.SayFnExactLookUp
