/- The pure statement of FnExactShowVal, and the walk: the printed walk of the law's body at arguments that are opened as lists of structs. -/
import Derived.Test.YtlhofeikcaejpaaDoorVEShowValOpens
import Derived.Test.YtlhofeikcaejpaaDoorVEShowValPx12
set_option linter.unusedVariables false
namespace Go.Proofs.YtlhofeikcaejpaaDoor.SayFnExactShowVal
open Go.RowKit Go.Proofs.YtlhofeikcaejpaaDoor.PFnExactShowVal Go.Proofs.YtlhofeikcaejpaaDoorW.PrintWords Go.Proofs.YtlhofeikcaejpaaDoorW.Opens
def G71 (x : S71) : Prop := ((Lit.int .i64 x.f0).wf = true) ∧ ((Lit.int .i64 x.f1).wf = true)
theorem opens_k71 : Opens Tryd.prog 71 k71 G71 :=
  opens_mono (opens_struct (fun x : S71 => (x.f0, x.f1)) (fun a => ⟨a.1, a.2⟩) (fun _ => rfl) Tryd.underlying71 (by kernel_rfl) (opensFs_cons rfl (opens_int Tryd.underlying3 (by kernel_rfl)) (by kernel_rfl) (opensFs_last rfl (opens_int Tryd.underlying3 (by kernel_rfl))))) (fun x h => h)
def G130 (x : S130) : Prop := ((Lit.int .i64 x.f0).wf = true) ∧ ((Lit.int .i64 x.f1).wf = true) ∧ (G71 x.f2) ∧ ((Lit.int .i64 x.f3).wf = true)
theorem opens_k130 : Opens Tryd.prog 130 k130 G130 :=
  opens_mono (opens_struct (fun x : S130 => (x.f0, x.f1, x.f2, x.f3)) (fun a => ⟨a.1, a.2.1, a.2.2.1, a.2.2.2⟩) (fun _ => rfl) Tryd.underlying130 (by kernel_rfl) (opensFs_cons rfl (opens_int Tryd.underlying3 (by kernel_rfl)) (by kernel_rfl) (opensFs_cons rfl (opens_int Tryd.underlying3 (by kernel_rfl)) (by kernel_rfl) (opensFs_cons rfl opens_k71 (by kernel_rfl) (opensFs_last rfl (opens_int Tryd.underlying3 (by kernel_rfl))))))) (fun x h => h)
def G132 (x : S132) : Prop := ((Lit.int .i64 x.f0).wf = true) ∧ ((Lit.int .i64 x.f1).wf = true)
theorem opens_k132 : Opens Tryd.prog 132 k132 G132 :=
  opens_mono (opens_struct (fun x : S132 => (x.f0, x.f1)) (fun a => ⟨a.1, a.2⟩) (fun _ => rfl) Tryd.underlying132 (by kernel_rfl) (opensFs_cons rfl (opens_int Tryd.underlying3 (by kernel_rfl)) (by kernel_rfl) (opensFs_last rfl (opens_int Tryd.underlying3 (by kernel_rfl))))) (fun x h => h)
def G135 (x : S135) : Prop := (G71 x.f0) ∧ (G71 x.f1)
theorem opens_k135 : Opens Tryd.prog 135 k135 G135 :=
  opens_mono (opens_struct (fun x : S135 => (x.f0, x.f1)) (fun a => ⟨a.1, a.2⟩) (fun _ => rfl) Tryd.underlying135 (by kernel_rfl) (opensFs_cons rfl opens_k71 (by kernel_rfl) (opensFs_last rfl opens_k71))) (fun x h => h)
def Pure : Prop := ∀ (l0_0 : List (S130)) (l0_1 : List (S132)) (l0_2 : List (S135)) (l0_3 : List (S71)) (a1_0 : Int) (a1_1 : Int) (a2 : Int), (l0_0.length ≤ 9223372036854775807 ∧ ∀ y ∈ l0_0, G130 y) → (l0_1.length ≤ 9223372036854775807 ∧ ∀ y ∈ l0_1, G132 y) → (l0_2.length ≤ 9223372036854775807 ∧ ∀ y ∈ l0_2, G135 y) → (l0_3.length ≤ 9223372036854775807 ∧ ∀ y ∈ l0_3, G71 y) → ((Lit.int .i64 a1_0).wf = true) → ((Lit.int .i64 a1_1).wf = true) → ((Lit.int .i64 a2).wf = true) → ∃ k, laws_FnExactShowVal.f k l0_0 l0_1 l0_2 l0_3 a1_0 a1_1 a2 = some true
theorem walk (P : Pure) (A0_0 : Option Addr) (c0_0 : Nat) (l0_0 : List (S130)) (A0_1 : Option Addr) (c0_1 : Nat) (l0_1 : List (S132)) (A0_2 : Option Addr) (c0_2 : Nat) (l0_2 : List (S135)) (A0_3 : Option Addr) (c0_3 : Nat) (l0_3 : List (S71)) (a1_0 : Int) (a1_1 : Int) (a2 : Int) (w : World) (hr0_0 : Kd.C k130 w A0_0 l0_0.length l0_0) (hc0_0 : l0_0.length ≤ c0_0) (hr0_1 : Kd.C k132 w A0_1 l0_1.length l0_1) (hc0_1 : l0_1.length ≤ c0_1) (hr0_2 : Kd.C k135 w A0_2 l0_2.length l0_2) (hc0_2 : l0_2.length ≤ c0_2) (hr0_3 : Kd.C k71 w A0_3 l0_3.length l0_3) (hc0_3 : l0_3.length ≤ c0_3) (g0 : l0_0.length ≤ 9223372036854775807 ∧ ∀ y ∈ l0_0, G130 y) (g1 : l0_1.length ≤ 9223372036854775807 ∧ ∀ y ∈ l0_1, G132 y) (g2 : l0_2.length ≤ 9223372036854775807 ∧ ∀ y ∈ l0_2, G135 y) (g3 : l0_3.length ≤ 9223372036854775807 ∧ ∀ y ∈ l0_3, G71 y) (g4 : (Lit.int .i64 a1_0).wf = true) (g5 : (Lit.int .i64 a1_1).wf = true) (g6 : (Lit.int .i64 a2).wf = true) (hT_ : PW w) :
    Calls Tryd.prog 7 #[.agg #[.slice A0_0 l0_0.length c0_0, .slice A0_1 l0_1.length c0_1, .slice A0_2 l0_2.length c0_2, .slice A0_3 l0_3.length c0_3], .agg #[.int .i64 a1_0, .int .i64 a1_1], .int .i64 a2] w fun e w' => e = .returned (.bool true) ∧ Below w.heap.size w w' := by
  obtain ⟨k, h⟩ := P l0_0 l0_1 l0_2 l0_3 a1_0 a1_1 a2 g0 g1 g2 g3 g4 g5 g6
  refine (laws_FnExactShowVal.calls k A0_0 c0_0 l0_0 A0_1 c0_1 l0_1 A0_2 c0_2 l0_2 A0_3 c0_3 l0_3 a1_0 a1_1 a2 true w hr0_0 hc0_0 hr0_1 hc0_1 hr0_2 hc0_2 hr0_3 hc0_3 h hT_).mono ?_
  rintro e w' ⟨rfl, hd⟩
  exact ⟨rfl, hd⟩
end Go.Proofs.YtlhofeikcaejpaaDoor.SayFnExactShowVal
