/- Fixed: both are the last bytes of a number, one by one from behind, the other one from the front. -/
import Derived.Test.YtimcbgonfjdgfaaPFnExactFixedx1
import Derived.Laws.Strings
import Derived.Laws.BitsLemmas
set_option linter.unusedVariables false
set_option linter.unusedSimpArgs false
namespace Go.Proofs.Ytimcbgonfjdgfaa.Pure
open Go.RowKit Go.Proofs.Ytimcbgonfjdgfaa.PFnExactFixed Go.Proofs.YtimcbgonfjdgfaaW.PrintWords Go.Proofs.YtimcbgonfjdgfaaW.PrintLast

/-- Fixed: both are the last bytes of a number, one by one from behind, the other one from the front. -/
def be : Nat → Int → List Int
  | 0, _ => []
  | w + 1, n => be w (n / 256) ++ [n % 256]
theorem be_front (w : Nat) : ∀ n : Int, 0 ≤ n → be (w + 1) n = [n / 256 ^ w % 256] ++ be w n := by
  induction w with
  | zero => intro n _; simp [be]
  | succ w ih =>
    intro n hn
    rw [be, ih (n / 256) (by omega), be]
    have : n / 256 / 256 ^ w = n / 256 ^ (w + 1) := by
      rw [Int.ediv_ediv_of_nonneg (by omega), Int.pow_succ, Int.mul_comm]
    rw [this]
    simp
theorem str_append (a b : List Int) : strOfNums (a ++ b) = strOfNums a ++ strOfNums b := by
  unfold strOfNums
  apply ByteArray.ext
  simp
theorem fixed_spec (w : Int) (hw : w ≤ 7) (d : Nat) : ∀ k (n : Int) (l : List Int) (i : Int), 0 ≤ i → w - i = d → 0 ≤ n → n < 9223372036854775808 → l.length + d ≤ 100 → d < k →
    spec_Fixed.l0 k n w (strOfNums l) i = some (if n / 256 ^ d > 0 then ⟨#[]⟩ else strOfNums (be d n ++ l)) := by
  induction d with
  | zero =>
    intro k n l i h0 hd hn hn2 hl hk
    obtain ⟨k, rfl⟩ : ∃ m, k = m + 1 := ⟨k - 1, by omega⟩
    simp only [spec_Fixed.l0]
    rw [if_neg (by omega)]
    simp only [Int.pow_zero, Int.ediv_one, be, List.nil_append]
    split <;> rfl
  | succ d ih =>
    intro k n l i h0 hd hn hn2 hl hk
    obtain ⟨k, rfl⟩ : ∃ m, k = m + 1 := ⟨k - 1, by omega⟩
    have e1 : wrap64 (Int.tdiv n 256) = n / 256 := by rw [Int.tdiv_eq_ediv_of_nonneg hn]; unfold wrap64; omega
    have e2 : Int.tmod n 256 % 256 = n % 256 := by rw [Int.tmod_eq_emod_of_nonneg hn]; omega
    have e3 : wrap64 (i + 1) = i + 1 := by unfold wrap64; omega
    have hz : ∀ x : List Int, (strOfNums x).size = x.length := fun x => by simp [strOfNums, ByteArray.size]
    simp only [spec_Fixed.l0, e1, e2, e3, Option.bind_some, hz, ← str_append]
    rw [if_pos (by omega), if_pos (by simp; omega), ih k (n / 256) ([n % 256] ++ l) (i + 1) (by omega) (by omega) (by omega) (by omega) (by simp; omega) (by omega)]
    have : n / 256 / 256 ^ d = n / 256 ^ (d + 1) := by
      rw [Int.ediv_ediv_of_nonneg (by omega), Int.pow_succ, Int.mul_comm]
    rw [this, be]
    simp
theorem shr_bytes (n : Int) (m : Nat) (hm : m ≤ 7) : shr .i64 n (8 * (m : Int)) = n / 256 ^ m := by
  unfold shr
  have : min (8 * (m : Int)).toNat IntKind.i64.bits = 8 * m := by
    simp only [IntKind.bits]; omega
  rw [this, Int.pow_mul]
  rfl
theorem fixed_impl (d : Nat) : ∀ k (n : Int) (l : List Int), 0 ≤ n → d ≤ 7 → l.length + d ≤ 100 → d < k → impl_Fixed.l0 k n l ((d : Int) - 1) = some (strOfNums (l ++ be d n)) := by
  induction d with
  | zero =>
    intro k n l hn hd hl hk
    obtain ⟨k, rfl⟩ : ∃ m, k = m + 1 := ⟨k - 1, by omega⟩
    simp only [impl_Fixed.l0]
    rw [if_neg (by omega)]
    simp [be]
  | succ d ih =>
    intro k n l hn hd hl hk
    obtain ⟨k, rfl⟩ : ∃ m, k = m + 1 := ⟨k - 1, by omega⟩
    have e0 : ((d + 1 : Nat) : Int) - 1 = d := by omega
    have e1 : wrap64 (8 * (d : Int)) = 8 * (d : Int) := by unfold wrap64; omega
    have e2 : wrap64 ((d : Int) - 1) = (d : Int) - 1 := by unfold wrap64; omega
    simp only [impl_Fixed.l0, e0, e1, e2, shr_bytes n d (by omega)]
    rw [if_pos (by omega), if_pos (by omega), if_pos (by omega), ih k n _ hn (by omega) (by simp; omega) (by omega), be_front d n hn]
    simp
theorem shl_bytes (m : Nat) (hm : m ≤ 7) : wrap64 (shl .i64 1 (8 * (m : Int)) - 1) = 256 ^ m - 1 := by
  have : m = 0 ∨ m = 1 ∨ m = 2 ∨ m = 3 ∨ m = 4 ∨ m = 5 ∨ m = 6 ∨ m = 7 := by omega
  rcases this with rfl | rfl | rfl | rfl | rfl | rfl | rfl | rfl <;> decide +kernel
theorem FnExactFixed : laws_FnExactFixed.Pure := by
  intro n w wn _
  have wn' : n < 9223372036854775808 := by
    have := wn
    simp [Lit.wf, IntKind.min, IntKind.max, IntKind.signed, IntKind.bits] at this
    omega
  have key : ∃ r, spec_Fixed.f 20 n w = some r ∧ impl_Fixed.f 20 n w = some r := by
    unfold spec_Fixed.f impl_Fixed.f spec_l1In.f impl_in.f
    simp only [spec_Fixed.j0, impl_Fixed.j0]
    by_cases h1 : w ≥ 1
    · by_cases h2 : w ≤ 7
      · have e1 : wrap64 (8 * w) = 8 * ((w.toNat : Nat) : Int) := by unfold wrap64; omega
        have e2 : wrap64 (w - 1) = ((w.toNat : Nat) : Int) - 1 := by unfold wrap64; omega
        have e3 := shl_bytes w.toNat (by omega)
        have e0 : (0 : Int) ≤ 8 * ((w.toNat : Nat) : Int) := by omega
        by_cases h3 : n < 0
        · have h3' : ¬ n ≥ 0 := by omega
          simp only [if_pos h1, decide_eq_true h2, decide_eq_true h3, e1, if_neg h3', Option.bind_some, if_pos e0, if_true, Bool.not_false]
          exact ⟨_, rfl, rfl⟩
        · have h3' : n ≥ 0 := by omega
          have hs := fixed_spec w h2 w.toNat 19 n [] 0 (by omega) (by omega) h3' wn' (by simp; omega) (by omega)
          have hi := fixed_impl w.toNat 19 n [] h3' (by omega) (by simp; omega) (by omega)
          have hp : (0 : Int) < 256 ^ w.toNat := Int.pow_pos (by omega)
          rw [show strOfNums [] = (⟨#[]⟩ : ByteArray) from rfl] at hs
          by_cases h4 : n ≤ 256 ^ w.toNat - 1
          · have h5 : ¬ n / 256 ^ w.toNat > 0 := by
              rw [Int.ediv_eq_zero_of_lt h3' (by omega)]; omega
            rw [if_neg h5] at hs
            refine ⟨strOfNums (be w.toNat n), ?_, ?_⟩
            · simpa [if_pos h1, decide_eq_true h2, decide_eq_false h3] using hs
            · simp only [if_pos h1, decide_eq_true h2, e1, e2, e3, if_pos h3', decide_eq_true h4, Option.bind_some, if_pos e0, if_true, Bool.not_true, Bool.false_eq_true, if_false]
              simpa using hi
          · have h5 : n / 256 ^ w.toNat > 0 := by
              have := (Int.le_ediv_iff_mul_le (a := 1) (b := n) hp).2 (by omega)
              omega
            rw [if_pos h5] at hs
            refine ⟨⟨#[]⟩, ?_, ?_⟩
            · simpa [if_pos h1, decide_eq_true h2, decide_eq_false h3] using hs
            · simp only [if_pos h1, decide_eq_true h2, e1, e2, e3, if_pos h3', decide_eq_false h4, Option.bind_some, if_pos e0, if_true, Bool.not_false]
      · simp [if_pos h1, decide_eq_false h2]
    · simp [if_neg h1]
  obtain ⟨r, h1, h2⟩ := key
  refine ⟨20, ?_⟩
  unfold laws_FnExactFixed.f
  rw [h1, h2]
  simp

end Go.Proofs.Ytimcbgonfjdgfaa.Pure
