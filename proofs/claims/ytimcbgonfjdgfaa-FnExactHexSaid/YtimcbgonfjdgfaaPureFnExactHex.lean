/- Hex of the program and Hex of the reference write the same digits: both loops answer alike at every place, and the reference's loop ends. -/
import Derived.Test.YtimcbgonfjdgfaaPFnExactHexx1
import Derived.Laws.Strings
import Derived.Laws.BitsLemmas
set_option linter.unusedVariables false
set_option linter.unusedSimpArgs false
namespace Go.Proofs.Ytimcbgonfjdgfaa.Pure
open Go.RowKit Go.Proofs.Ytimcbgonfjdgfaa.PFnExactHex Go.Proofs.YtimcbgonfjdgfaaW.PrintWords Go.Proofs.YtimcbgonfjdgfaaW.PrintLast

/-- Hex of the program and Hex of the reference write the same digits: both loops answer alike at every place, and the reference's loop ends. -/
theorem hex_and : ∀ n : Fin 256, Go.bits .and .u8 ((n.val : Nat) : Int) 15 = ((n.val % 16 : Nat) : Int) := by decide +kernel
theorem hex_low (s : ByteArray) (i : Int) : Go.bits .and .u8 (bt s i) 15 = bt s i % 16 := by
  have h := bt_range s i
  have := hex_and ⟨(bt s i).toNat, by omega⟩
  simp only at this
  rw [show (((bt s i).toNat : Nat) : Int) = bt s i by omega] at this
  rw [this]
  omega
theorem hex_same (s : ByteArray) (hn : s.size ≤ 1048576) : ∀ k x3 x4, 0 ≤ x4 → spec_Hex.l0 k s x3 x4 = impl_Hex.l0 k s x3 x4 := by
  intro k
  induction k with
  | zero => intro x3 x4 _; rfl
  | succ k ih =>
    intro x3 x4 h0
    have hb := bt_range s x4
    have hl := hex_low s x4
    have e1 : wrap64 (bt s x4) = bt s x4 := by unfold wrap64; omega
    have e2 : wrap64 (Int.tdiv (bt s x4) 16) = bt s x4 / 16 := by
      rw [Int.tdiv_eq_ediv_of_nonneg (by omega)]; unfold wrap64; omega
    have e3 : Int.tmod (bt s x4) 16 = bt s x4 % 16 := Int.tmod_eq_emod_of_nonneg (by omega)
    simp only [spec_Hex.l0, impl_Hex.l0, spec_l1Digit.f, e1, e2, e3, hl]
    by_cases h1 : x4 < (s.size : Int)
    · have a1 : 0 ≤ bt s x4 / 16 := by omega
      have a2 : bt s x4 / 16 < 16 := by omega
      have a3 : 0 ≤ bt s x4 % 16 := by omega
      have a4 : bt s x4 % 16 < 16 := by omega
      simp only [if_pos h1, if_pos h0, if_pos a1, if_pos a2, if_pos a3, if_pos a4, Option.bind_some]
      rw [ih _ _ (by unfold wrap64; omega)]
    · simp only [if_neg h1]
theorem hex_ends (s : ByteArray) (hn : s.size ≤ 1048576) (d : Nat) : ∀ k x3 x4, 0 ≤ x4 → (x3.length : Int) = 2 * x4 → x4 ≤ s.size → (s.size : Int) - x4 = d → d < k → ∃ r, spec_Hex.l0 k s x3 x4 = some r := by
  induction d with
  | zero =>
    intro k x3 x4 h0 hl h1 hd hk
    obtain ⟨k, rfl⟩ : ∃ m, k = m + 1 := ⟨k - 1, by omega⟩
    exact ⟨_, by simp only [spec_Hex.l0]; rw [if_neg (by omega)]⟩
  | succ d ih =>
    intro k x3 x4 h0 hl h1 hd hk
    obtain ⟨k, rfl⟩ : ∃ m, k = m + 1 := ⟨k - 1, by omega⟩
    have hb := bt_range s x4
    have e1 : wrap64 (bt s x4) = bt s x4 := by unfold wrap64; omega
    have e2 : wrap64 (Int.tdiv (bt s x4) 16) = bt s x4 / 16 := by
      rw [Int.tdiv_eq_ediv_of_nonneg (by omega)]; unfold wrap64; omega
    have e3 : Int.tmod (bt s x4) 16 = bt s x4 % 16 := Int.tmod_eq_emod_of_nonneg (by omega)
    have e4 : wrap64 (x4 + 1) = x4 + 1 := by unfold wrap64; omega
    have a0 : x4 < (s.size : Int) := by omega
    have a1 : 0 ≤ bt s x4 / 16 := by omega
    have a2 : bt s x4 / 16 < 16 := by omega
    have a3 : 0 ≤ bt s x4 % 16 := by omega
    have a4 : bt s x4 % 16 < 16 := by omega
    simp only [spec_Hex.l0, spec_l1Digit.f, e1, e2, e3, e4, if_pos a0, if_pos h0, if_pos a1, if_pos a2, if_pos a3, if_pos a4, Option.bind_some]
    rw [if_pos (by simp; omega)]
    exact ih k _ _ (by omega) (by simp; omega) (by omega) (by omega) (by omega)
theorem FnExactHex : laws_FnExactHex.Pure := by
  intro s _
  unfold laws_FnExactHex.f
  by_cases h : (s.size : Int) > 1048576
  · exact ⟨0, by rw [if_pos h]⟩
  · have hn : s.size ≤ 1048576 := by omega
    obtain ⟨r, hr⟩ := hex_ends s hn s.size (s.size + 1) [] 0 (by omega) rfl (by omega) (by omega) (by omega)
    refine ⟨s.size + 1, ?_⟩
    rw [if_neg h]
    unfold spec_Hex.f impl_Hex.f
    rw [← hex_same s hn _ _ _ (by omega), hr]
    simp

end Go.Proofs.Ytimcbgonfjdgfaa.Pure
