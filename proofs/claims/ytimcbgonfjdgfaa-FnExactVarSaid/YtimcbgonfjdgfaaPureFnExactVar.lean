/- Var: both loops are one, and a number comes to an end: m more bytes are enough for a number below 128 ^ (m + 1). -/
import Derived.Test.YtimcbgonfjdgfaaPFnExactVarx1
import Derived.Laws.Strings
import Derived.Laws.BitsLemmas
set_option linter.unusedVariables false
set_option linter.unusedSimpArgs false
namespace Go.Proofs.Ytimcbgonfjdgfaa.Pure
open Go.RowKit Go.Proofs.Ytimcbgonfjdgfaa.PFnExactVar Go.Proofs.YtimcbgonfjdgfaaW.PrintWords Go.Proofs.YtimcbgonfjdgfaaW.PrintLast

/-- Var: both loops are one, and a number comes to an end: m more bytes are enough for a number below 128 ^ (m + 1). -/
theorem var_both (m : Nat) : ∀ k (x0 : Int) x3, 0 ≤ x0 → x0 < 562949953421312 → x0 < 128 ^ (m + 1) → m < k → x3.length + m ≤ 1000 → ∃ r, spec_Var.l0 k x0 x3 = some r ∧ impl_Var.l0 k x0 x3 = some r := by
  induction m with
  | zero =>
    intro k x0 x3 h0 hx hm hk hl
    obtain ⟨k, rfl⟩ : ∃ m, k = m + 1 := ⟨k - 1, by omega⟩
    simp only [spec_Var.l0, impl_Var.l0]
    have h : ¬ x0 ≥ 128 := by omega
    have h2 : ¬ x0 > 127 := by omega
    have h3 : x3.length < 140737488355328 := by omega
    simp only [if_neg h, if_neg h2, if_pos h3]
    exact ⟨_, rfl, rfl⟩
  | succ m ih =>
    intro k x0 x3 h0 hx hm hk hl
    obtain ⟨k, rfl⟩ : ∃ m, k = m + 1 := ⟨k - 1, by omega⟩
    have hd : wrap64 (Int.tdiv x0 128) = x0 / 128 := by
      rw [Int.tdiv_eq_ediv_of_nonneg h0]; unfold wrap64; omega
    simp only [spec_Var.l0, impl_Var.l0, hd]
    by_cases h : x0 ≥ 128
    · have h2 : x0 > 127 := by omega
      have h3 : x3.length < 140737488355328 := by omega
      simp only [if_pos h, if_pos h2, if_pos h3, show 128 + Int.tmod x0 128 = Int.tmod x0 128 + 128 by omega]
      refine ih k _ _ (by omega) (by omega) ?_ (by omega) (by simp; omega)
      rw [Int.pow_succ] at hm
      exact Int.ediv_lt_of_lt_mul (by omega) hm
    · have h2 : ¬ x0 > 127 := by omega
      have h3 : x3.length < 140737488355328 := by omega
      simp only [if_neg h, if_neg h2, if_pos h3]
      exact ⟨_, rfl, rfl⟩
theorem FnExactVar : laws_FnExactVar.Pure := by
  intro a _
  unfold laws_FnExactVar.f spec_Var.f impl_Var.f spec_l1In.f impl_in.f
  by_cases h : a ≥ 0
  · by_cases h2 : a ≤ 562949953421311
    · obtain ⟨r, h3, h4⟩ := var_both 7 8 a [] h (by omega) (by omega) (by omega) (by simp)
      refine ⟨8, ?_⟩
      simp only [if_pos h, Option.bind_some, decide_eq_true h2, if_true, h3, h4]
    · exact ⟨0, by simp only [if_pos h, Option.bind_some, decide_eq_false h2]; simp⟩
  · exact ⟨0, by simp only [if_neg h, Option.bind_some]; simp⟩

end Go.Proofs.Ytimcbgonfjdgfaa.Pure
