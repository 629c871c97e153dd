/- IsWord: one result of both loops at every place, told by what stands behind it. -/
import Derived.Test.YtimcbgonfjdgfaaPFnExactIsWordx1
import Derived.Laws.Strings
import Derived.Laws.BitsLemmas
set_option linter.unusedVariables false
set_option linter.unusedSimpArgs false
namespace Go.Proofs.Ytimcbgonfjdgfaa.Pure
open Go.RowKit Go.Proofs.Ytimcbgonfjdgfaa.PFnExactIsWord Go.Proofs.YtimcbgonfjdgfaaW.PrintWords Go.Proofs.YtimcbgonfjdgfaaW.PrintLast

/-- IsWord: one result of both loops at every place, told by what stands behind it. -/
theorem word_both (s : ByteArray) (hn : s.size ≤ 1048576) (d : Nat) : ∀ k (x3 : Int), 0 ≤ x3 → x3 ≤ s.size → (s.size : Int) - x3 = d → d < k → ∃ r, spec_IsWord.l0 k s x3 = some r ∧ impl_IsWord.l0 k s x3 = some r := by
  induction d with
  | zero =>
    intro k x3 h0 h1 hd hk
    obtain ⟨k, rfl⟩ : ∃ m, k = m + 1 := ⟨k - 1, by omega⟩
    have a0 : ¬ x3 < (s.size : Int) := by omega
    simp only [spec_IsWord.l0, impl_IsWord.l0, if_neg a0, spec_l1In.f, impl_in.f]
    split <;> exact ⟨_, rfl, rfl⟩
  | succ d ih =>
    intro k x3 h0 h1 hd hk
    obtain ⟨k, rfl⟩ : ∃ m, k = m + 1 := ⟨k - 1, by omega⟩
    have a0 : x3 < (s.size : Int) := by omega
    have e4 : wrap64 (x3 + 1) = x3 + 1 := by unfold wrap64; omega
    obtain ⟨r, hr1, hr2⟩ := ih k (x3 + 1) (by omega) (by omega) (by omega) (by omega)
    simp only [spec_IsWord.l0, impl_IsWord.l0, if_pos a0, if_pos h0, spec_l2Letter.f, e4]
    by_cases h2 : bt s x3 ≥ 97
    · have h3 : ¬ bt s x3 < 97 := by omega
      simp only [if_pos h2, if_neg h3, Option.bind_some]
      by_cases h4 : bt s x3 ≤ 122
      · have h5 : ¬ bt s x3 > 122 := by omega
        simp only [if_neg h5, decide_eq_true h4, if_true]
        exact ⟨r, hr1, hr2⟩
      · have h5 : bt s x3 > 122 := by omega
        simp only [if_pos h5, decide_eq_false h4]
        exact ⟨false, by simp, rfl⟩
    · have h3 : bt s x3 < 97 := by omega
      simp only [if_neg h2, if_pos h3, Option.bind_some]
      exact ⟨false, by simp, rfl⟩
theorem FnExactIsWord : laws_FnExactIsWord.Pure := by
  intro s _
  unfold laws_FnExactIsWord.f
  by_cases h : (s.size : Int) > 1048576
  · exact ⟨0, by rw [if_pos h]⟩
  · obtain ⟨r, h1, h2⟩ := word_both s (by omega) s.size (s.size + 1) 0 (by omega) (by omega) (by omega) (by omega)
    refine ⟨s.size + 1, ?_⟩
    rw [if_neg h]
    unfold spec_IsWord.f impl_IsWord.f
    rw [h1, h2]
    simp

end Go.Proofs.Ytimcbgonfjdgfaa.Pure
