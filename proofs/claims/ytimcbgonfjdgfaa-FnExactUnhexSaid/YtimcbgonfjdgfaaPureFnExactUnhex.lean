/- Unhex: a digit's worth is told the same for each of 256 bytes; then both loops are one. -/
import Derived.Test.YtimcbgonfjdgfaaPFnExactUnhexx1
import Derived.Laws.Strings
import Derived.Laws.BitsLemmas
set_option linter.unusedVariables false
set_option linter.unusedSimpArgs false
namespace Go.Proofs.Ytimcbgonfjdgfaa.Pure
open Go.RowKit Go.Proofs.Ytimcbgonfjdgfaa.PFnExactUnhex Go.Proofs.YtimcbgonfjdgfaaW.PrintWords Go.Proofs.YtimcbgonfjdgfaaW.PrintLast

/-- Unhex: a digit's worth is told the same for each of 256 bytes; then both loops are one. -/
theorem digit_table : ∀ n : Fin 256, spec_l1FromHex.f 17 ((n.val : Nat) : Int) = impl_digit.f 1 ((n.val : Nat) : Int) ∧ (impl_digit.f 1 ((n.val : Nat) : Int)).isSome = true := by decide +kernel
theorem digit_both (s : ByteArray) (i : Int) (k : Nat) (hk : 17 ≤ k) : ∃ r, spec_l1FromHex.f k (bt s i) = some r ∧ impl_digit.f k (bt s i) = some r := by
  have h := bt_range s i
  have := digit_table ⟨(bt s i).toNat, by omega⟩
  simp only at this
  rw [show (((bt s i).toNat : Nat) : Int) = bt s i by omega] at this
  obtain ⟨h1, h2⟩ := this
  obtain ⟨r, hr⟩ := Option.isSome_iff_exists.1 h2
  exact ⟨r, at_rounds (spec_l1FromHex.mono _) hk (h1.trans hr), at_rounds (impl_digit.mono _) (by omega) hr⟩
theorem unhex_both (s : ByteArray) (hn : s.size ≤ 1048576) (he : (s.size : Int) % 2 = 0) (d : Nat) : ∀ k x4 (x5 : Int), 0 ≤ x5 → x5 % 2 = 0 → x4.length ≤ x5 → x5 ≤ s.size → (s.size : Int) - x5 ≤ d → d + 20 < k → ∃ r, spec_Unhex.l0 k s x4 x5 = some r ∧ impl_Unhex.l0 k s x4 x5 = some r := by
  induction d with
  | zero =>
    intro k x4 x5 h0 h2 hl h1 hd hk
    obtain ⟨k, rfl⟩ : ∃ m, k = m + 1 := ⟨k - 1, by omega⟩
    simp only [spec_Unhex.l0, impl_Unhex.l0]
    have hlt : ¬ x5 < (s.size : Int) := by omega
    simp only [if_neg hlt]
    exact ⟨_, rfl, rfl⟩
  | succ d ih =>
    intro k x4 x5 h0 h2 hl h1 hd hk
    obtain ⟨k, rfl⟩ : ∃ m, k = m + 1 := ⟨k - 1, by omega⟩
    by_cases hlt : x5 < (s.size : Int)
    · have e1 : wrap64 (x5 + 1) = x5 + 1 := by unfold wrap64; omega
      have e2 : wrap64 (x5 + 2) = x5 + 2 := by unfold wrap64; omega
      obtain ⟨a, ha1, ha2⟩ := digit_both s x5 k (by omega)
      obtain ⟨b, hb1, hb2⟩ := digit_both s (x5 + 1) k (by omega)
      simp only [spec_Unhex.l0, impl_Unhex.l0, e1, e2, ha1, ha2, hb1, hb2, Option.bind_some]
      have c1 : 0 ≤ x5 + 1 := by omega
      have c2 : x5 + 1 < (s.size : Int) := by omega
      have c3 : x4.length < 140737488355328 := by omega
      simp only [if_pos hlt, if_pos h0, if_pos c1, if_pos c2, if_pos c3]
      split
      · exact ⟨_, rfl, rfl⟩
      · split
        · exact ⟨_, rfl, rfl⟩
        · exact ih k _ _ (by omega) (by omega) (by simp; omega) (by omega) (by omega) (by omega)
    · simp only [spec_Unhex.l0, impl_Unhex.l0, if_neg hlt]
      exact ⟨_, rfl, rfl⟩
theorem FnExactUnhex : laws_FnExactUnhex.Pure := by
  intro s _
  unfold laws_FnExactUnhex.f
  by_cases h : (s.size : Int) > 1048576
  · exact ⟨0, by rw [if_pos h]⟩
  · have key : ∃ r, spec_Unhex.f (s.size + 22) s = some r ∧ impl_Unhex.f (s.size + 22) s = some r := by
      unfold spec_Unhex.f impl_Unhex.f
      by_cases h1 : (s.size : Int) % 2 = 1
      · rw [if_pos h1, if_neg (by omega)]
        exact ⟨_, rfl, rfl⟩
      · rw [if_neg h1, if_pos (by omega)]
        exact unhex_both s (by omega) (by omega) s.size _ [] 0 (by omega) (by omega) (by simp) (by omega) (by omega) (by omega)
    obtain ⟨r, h1, h2⟩ := key
    refine ⟨s.size + 22, ?_⟩
    rw [if_neg h, h1, h2]
    simp

end Go.Proofs.Ytimcbgonfjdgfaa.Pure
