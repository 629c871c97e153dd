/- ReadFixed: at each place both have the number so far, which is less than 256 ^ (bytes so far); an 'or' of a number that ends in eight zeros with a byte is their sum. -/
import Derived.Test.YtimcbgonfjdgfaaPFnExactReadFixedx1
import Derived.Laws.Strings
import Derived.Laws.BitsLemmas
set_option linter.unusedVariables false
set_option linter.unusedSimpArgs false
namespace Go.Proofs.Ytimcbgonfjdgfaa.Pure
open Go.RowKit Go.Proofs.Ytimcbgonfjdgfaa.PFnExactReadFixed Go.Proofs.YtimcbgonfjdgfaaW.PrintWords Go.Proofs.YtimcbgonfjdgfaaW.PrintLast

/-- ReadFixed: at each place both have the number so far, which is less than 256 ^ (bytes so far); an 'or' of a number that ends in eight zeros with a byte is their sum. -/
theorem or_byte (x b : Int) (h0 : 0 ≤ x) (h : x < 281474976710656) (hb0 : 0 ≤ b) (hb : b < 256) : Go.bits .or .i64 (x * 256) b = x * 256 + b :=
  Go.bits_join .i64 63 (by decide) (fun n h1 h2 => by rw [Go.IntKind.wrap_i64]; omega) 8 _ _ (by omega) (by omega) (by omega) hb0 (by omega) (by omega)
theorem wrap_mul (x : Int) (h0 : 0 ≤ x) (h : x < 281474976710656) : wrap64 (x * 256) = x * 256 := by unfold wrap64; omega
theorem wrap_add (x b : Int) (h0 : 0 ≤ x) (h : x < 281474976710656) (h1 : 0 ≤ b) (h2 : b ≤ 255) : wrap64 (x * 256 + b) = x * 256 + b := by unfold wrap64; omega
theorem wrap_byte (b : Int) (h1 : 0 ≤ b) (h2 : b ≤ 255) : wrap64 b = b := by unfold wrap64; omega
theorem wrap_next (i : Nat) (h : i < 4611686018427387904) : wrap64 ((i : Int) + 1) = ((i + 1 : Nat) : Int) := by unfold wrap64; omega
theorem pow_six (i : Nat) (x : Int) (hi : i ≤ 6) (hx : x < 256 ^ i) : x < 281474976710656 := by
  have : i = 0 ∨ i = 1 ∨ i = 2 ∨ i = 3 ∨ i = 4 ∨ i = 5 ∨ i = 6 := by omega
  rcases this with rfl | rfl | rfl | rfl | rfl | rfl | rfl <;> omega
theorem fixed_read (s : ByteArray) (w : Int) (hw : w ≤ 7) (hs : w ≤ s.size) (d : Nat) : ∀ k (x : Int) (i : Nat), (i : Int) ≤ w → w - i = d → 0 ≤ x → x < 256 ^ i → d < k → ∃ r, spec_ReadFixed.l0 k s w x i = some r ∧ impl_ReadFixed.l0 k s x w i = some r := by
  induction d with
  | zero =>
    intro k x i hi hd h0 hx hk
    obtain ⟨k, rfl⟩ : ∃ m, k = m + 1 := ⟨k - 1, by omega⟩
    simp only [spec_ReadFixed.l0, impl_ReadFixed.l0]
    have h : ¬ (i : Int) < w := by omega
    simp only [if_neg h]
    exact ⟨_, rfl, rfl⟩
  | succ d ih =>
    intro k x i hi hd h0 hx hk
    obtain ⟨k, rfl⟩ : ∃ m, k = m + 1 := ⟨k - 1, by omega⟩
    have hx6 : x < 281474976710656 := pow_six i x (by omega) hx
    have hnext : Aside0 (x * 256 + bt s i < 256 ^ (i + 1)) := ⟨by
      have hb := bt_range s i
      rw [Int.pow_succ]
      omega⟩
    clear hx
    have hb := bt_range s i
    have e1 : wrap64 (x * 256) = x * 256 := wrap_mul x h0 hx6
    have e2 : wrap64 (bt s i) = bt s i := wrap_byte _ hb.1 hb.2
    have e3 : wrap64 (x * 256 + bt s i) = x * 256 + bt s i := wrap_add x _ h0 hx6 hb.1 hb.2
    have e4 : wrap64 ((i : Int) + 1) = ((i + 1 : Nat) : Int) := wrap_next i (by omega)
    simp only [spec_ReadFixed.l0, impl_ReadFixed.l0, e1, e2, e3, e4, or_byte x (bt s i) h0 (by omega) hb.1 (by omega)]
    have c1 : (i : Int) < w := by omega
    have c2 : 0 ≤ (i : Int) := Int.natCast_nonneg i
    have c3 : (i : Int) < (s.size : Int) := Int.lt_of_lt_of_le c1 hs
    simp only [if_pos c1, if_pos c2, if_pos c3]
    exact ih k _ (i + 1) (by omega) (by omega) (by omega) hnext.out (by omega)
theorem FnExactReadFixed : laws_FnExactReadFixed.Pure := by
  intro s w _ _
  unfold laws_FnExactReadFixed.f
  by_cases h : (s.size : Int) > 1048576
  · exact ⟨0, by rw [if_pos h]⟩
  · have key : ∃ r, spec_ReadFixed.f 20 s w = some r ∧ impl_ReadFixed.f 20 s w = some r := by
      unfold spec_ReadFixed.f impl_ReadFixed.f spec_l1In.f impl_in.f
      simp only [spec_ReadFixed.j0, impl_ReadFixed.j0]
      by_cases h1 : w ≥ 1
      · by_cases h2 : w ≤ 7
        · by_cases h3 : (s.size : Int) < w
          · simp [if_pos h1, decide_eq_true h2, decide_eq_true h3]
          · obtain ⟨r, h4, h5⟩ := fixed_read s w h2 (by omega) w.toNat 19 0 0 (by omega) (by omega) (by omega) (by omega) (by omega)
            refine ⟨r, ?_, ?_⟩
            · simpa [if_pos h1, decide_eq_true h2, decide_eq_false h3] using h4
            · simpa [if_pos h1, decide_eq_true h2, decide_eq_false h3] using h5
        · simp [if_pos h1, decide_eq_false h2]
      · simp [if_neg h1]
    obtain ⟨r, h1, h2⟩ := key
    refine ⟨20, ?_⟩
    rw [if_neg h, h1, h2]
    simp

end Go.Proofs.Ytimcbgonfjdgfaa.Pure
