/- The pure statement of FnExactTagsOf, and the walk: the printed walk of the law's body at arguments that are opened as lists of structs. -/
import Derived.Test.YtecfpllbilgdmaaVETagsOfOpens
import Derived.Test.YtecfpllbilgdmaaVETagsOfPx5
set_option linter.unusedVariables false
namespace Go.Proofs.Ytecfpllbilgdmaa.SayFnExactTagsOf
open Go.RowKit Go.Proofs.Ytecfpllbilgdmaa.PFnExactTagsOf Go.Proofs.YtecfpllbilgdmaaW.PrintWords Go.Proofs.YtecfpllbilgdmaaW.Opens
def G120 (x : S120) : Prop := ((Lit.int .i64 x.f0).wf = true) ∧ ((Lit.int .i64 x.f1).wf = true) ∧ ((Lit.int .i64 x.f2).wf = true)
theorem opens_k120 : Opens Try.prog 120 k120 G120 :=
  opens_mono (opens_struct (fun x : S120 => (x.f0, x.f1, x.f2)) (fun a => ⟨a.1, a.2.1, a.2.2⟩) (fun _ => rfl) Try.underlying120 (by kernel_rfl) (opensFs_cons rfl (opens_int Try.underlying3 (by kernel_rfl)) (by kernel_rfl) (opensFs_cons rfl (opens_int Try.underlying3 (by kernel_rfl)) (by kernel_rfl) (opensFs_last rfl (opens_int Try.underlying3 (by kernel_rfl)))))) (fun x h => h)
def Pure : Prop := ∀ (a0_0 : Int) (a0_1 : ByteArray) (a0_2 : Int) (a0_3 : Int) (l0_4 : List (S120)) (a1 : Int), ((Lit.int .i64 a0_0).wf = true) → (a0_1.size ≤ 9223372036854775807) → ((Lit.int .i64 a0_2).wf = true) → ((Lit.int .i64 a0_3).wf = true) → (l0_4.length ≤ 9223372036854775807 ∧ ∀ y ∈ l0_4, G120 y) → ((Lit.int .i64 a1).wf = true) → ∃ k, laws_FnExactTagsOf.f k a0_0 a0_1 a0_2 a0_3 l0_4 a1 = some true
theorem walk (P : Pure) (a0_0 : Int) (a0_1 : ByteArray) (a0_2 : Int) (a0_3 : Int) (A0_4 : Option Addr) (c0_4 : Nat) (l0_4 : List (S120)) (a1 : Int) (w : World) (hr0_4 : Kd.C k120 w A0_4 l0_4.length l0_4) (hc0_4 : l0_4.length ≤ c0_4) (g0 : (Lit.int .i64 a0_0).wf = true) (g1 : a0_1.size ≤ 9223372036854775807) (g2 : (Lit.int .i64 a0_2).wf = true) (g3 : (Lit.int .i64 a0_3).wf = true) (g4 : l0_4.length ≤ 9223372036854775807 ∧ ∀ y ∈ l0_4, G120 y) (g5 : (Lit.int .i64 a1).wf = true) :
    Calls Try.prog 6 #[.agg #[.int .i64 a0_0, .string a0_1, .int .i64 a0_2, .int .i64 a0_3, .slice A0_4 l0_4.length c0_4], .int .i64 a1] w fun e w' => e = .returned (.bool true) ∧ Below w.heap.size w w' := by
  obtain ⟨k, h⟩ := P a0_0 a0_1 a0_2 a0_3 l0_4 a1 g0 g1 g2 g3 g4 g5
  refine (laws_FnExactTagsOf.calls k a0_0 a0_1 a0_2 a0_3 A0_4 c0_4 l0_4 a1 true w hr0_4 hc0_4 h).mono ?_
  rintro e w' ⟨rfl, hd⟩
  exact ⟨rfl, hd⟩
end Go.Proofs.Ytecfpllbilgdmaa.SayFnExactTagsOf
