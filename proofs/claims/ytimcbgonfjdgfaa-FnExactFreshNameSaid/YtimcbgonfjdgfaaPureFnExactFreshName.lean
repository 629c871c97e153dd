/- FreshName: both loops are one, and a number comes to an end. -/
import Derived.Test.YtimcbgonfjdgfaaPFnExactFreshNamex1
import Derived.Laws.Strings
import Derived.Laws.BitsLemmas
set_option linter.unusedVariables false
set_option linter.unusedSimpArgs false
namespace Go.Proofs.Ytimcbgonfjdgfaa.Pure
open Go.RowKit Go.Proofs.Ytimcbgonfjdgfaa.PFnExactFreshName Go.Proofs.YtimcbgonfjdgfaaW.PrintWords Go.Proofs.YtimcbgonfjdgfaaW.PrintLast

/-- FreshName: both loops are one, and a number comes to an end. -/
theorem fresh_both (n : Nat) : ∀ k x3, n < k → x3.size + n ≤ 20000 → ∃ r, spec_FreshName.l0 k (n : Int) x3 = some r ∧ impl_FreshName.l0 k (n : Int) x3 = some r := by
  induction n using Nat.strongRecOn with
  | _ n ih =>
    intro k x3 hk hs
    obtain ⟨k, rfl⟩ : ∃ m, k = m + 1 := ⟨k - 1, by omega⟩
    simp only [spec_FreshName.l0, impl_FreshName.l0]
    by_cases h : (n : Int) > 0
    · have e : wrap64 (Int.tdiv (n : Int) 26) = ((n / 26 : Nat) : Int) := by
        rw [Int.tdiv_eq_ediv_of_nonneg (by omega)]; unfold wrap64; omega
      simp only [if_pos h, Option.bind_some, e]
      generalize hg : strOfNums [wrap64 (97 + (Int.tmod (n : Int) 26)) % 256] = c
      have hc : c.size = 1 := by rw [← hg]; rfl
      have hc2 : c.size + x3.size ≤ 9223372036854775807 := by omega
      simp only [if_pos hc2]
      exact ih (n / 26) (by omega) k (c ++ x3) (by omega) (by rw [ByteArray.size_append]; omega)
    · have hc2 : 2 + x3.size ≤ 9223372036854775807 := by omega
      simp only [if_neg h, if_pos hc2]
      exact ⟨_, rfl, rfl⟩
theorem FnExactFreshName : laws_FnExactFreshName.Pure := by
  intro a _
  unfold laws_FnExactFreshName.f spec_FreshName.f impl_FreshName.f spec_l1In.f impl_in.f
  by_cases h : a ≥ 0
  · by_cases h2 : a ≤ 9999
    · have e : wrap64 (Int.tdiv a 26) = ((a.toNat / 26 : Nat) : Int) := by
        rw [Int.tdiv_eq_ediv_of_nonneg (by omega)]; unfold wrap64; omega
      obtain ⟨r, h3, h4⟩ := fresh_both (a.toNat / 26) 20000 (strOfNums [wrap64 (97 + (Int.tmod a 26)) % 256]) (by omega) (by
        have : (strOfNums [wrap64 (97 + (Int.tmod a 26)) % 256]).size = 1 := rfl
        omega)
      refine ⟨20000, ?_⟩
      simp only [if_pos h, Option.bind_some, decide_eq_true h2, if_true, e, h3, h4]
    · exact ⟨0, by simp only [if_pos h, Option.bind_some, decide_eq_false h2]; simp⟩
  · exact ⟨0, by simp only [if_neg h, Option.bind_some]; simp⟩

end Go.Proofs.Ytimcbgonfjdgfaa.Pure
