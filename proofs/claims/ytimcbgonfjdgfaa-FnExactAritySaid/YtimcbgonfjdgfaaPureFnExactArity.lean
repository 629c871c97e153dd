/- Arity: both are told by the same tests; each of nineteen kinds by itself, and all others alike. -/
import Derived.Test.YtimcbgonfjdgfaaPFnExactArityx1
import Derived.Laws.Strings
import Derived.Laws.BitsLemmas
set_option linter.unusedVariables false
set_option linter.unusedSimpArgs false
namespace Go.Proofs.Ytimcbgonfjdgfaa.Pure
open Go.RowKit Go.Proofs.Ytimcbgonfjdgfaa.PFnExactArity Go.Proofs.YtimcbgonfjdgfaaW.PrintWords Go.Proofs.YtimcbgonfjdgfaaW.PrintLast

/-- Arity: both are told by the same tests; each of nineteen kinds by itself, and all others alike. -/
theorem arity_at (a : Int) (k : Nat) (h : ¬ (a = 3 ∨ a = 10 ∨ a = 11 ∨ a = 15 ∨ a = 16 ∨ a = 18 ∨ a = 4 ∨ a = 5 ∨ a = 6 ∨ a = 8 ∨ a = 9 ∨ a = 13 ∨ a = 17 ∨ a = 19 ∨ a = 7 ∨ a = 14)) : spec_Arity.f (k + 2) a = some 0 := by
  simp only [not_or] at h
  obtain ⟨h1, h2, h3, h4, h5, h6, h7, h8, h9, h10, h11, h12, h13, h14, h15, h16⟩ := h
  simp [spec_Arity.f, spec_Arity.j0, spec_Arity.j1, h1, h2, h3, h4, h5, h6, h7, h8, h9, h10, h11, h12, h13, h14, h15, h16]
theorem arity_both (a : Int) (k : Nat) : ∃ r, spec_Arity.f (k + 2) a = some r ∧ impl_Arity.f (k + 2) a = some r := by
  have e : impl_Arity.f (k + 2) a = spec_Arity.f (k + 2) a := by
    simp only [spec_Arity.f, impl_Arity.f, spec_Arity.j0, spec_Arity.j1, impl_Arity.j0, impl_Arity.j1]
  have h : ∃ r, spec_Arity.f (k + 2) a = some r := by
    by_cases h : a = 3 ∨ a = 10 ∨ a = 11 ∨ a = 15 ∨ a = 16 ∨ a = 18 ∨ a = 4 ∨ a = 5 ∨ a = 6 ∨ a = 8 ∨ a = 9 ∨ a = 13 ∨ a = 17 ∨ a = 19 ∨ a = 7 ∨ a = 14
    · rcases h with rfl | rfl | rfl | rfl | rfl | rfl | rfl | rfl | rfl | rfl | rfl | rfl | rfl | rfl | rfl | rfl <;> exact ⟨_, rfl⟩
    · exact ⟨_, arity_at a k h⟩
  obtain ⟨r, hr⟩ := h
  exact ⟨r, hr, e.trans hr⟩
theorem FnExactArity : laws_FnExactArity.Pure := by
  intro a _
  obtain ⟨r, h1, h2⟩ := arity_both a 0
  refine ⟨0 + 2, ?_⟩
  unfold laws_FnExactArity.f
  rw [h1, h2]
  simp

end Go.Proofs.Ytimcbgonfjdgfaa.Pure
