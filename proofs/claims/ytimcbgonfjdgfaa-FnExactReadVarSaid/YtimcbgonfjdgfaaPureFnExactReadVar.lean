/- ReadVar: the reference asks of each beginning whether it is the Var of what it says; the program stops at the first byte below 128. Both are told by 'canon': is a list of bytes just what Var writes? -/
import Derived.Test.YtimcbgonfjdgfaaPFnExactReadVarx1
import Derived.Laws.Strings
import Derived.Laws.BitsLemmas
set_option linter.unusedVariables false
set_option linter.unusedSimpArgs false
namespace Go.Proofs.Ytimcbgonfjdgfaa.Pure
open Go.RowKit Go.Proofs.Ytimcbgonfjdgfaa.PFnExactReadVar Go.Proofs.YtimcbgonfjdgfaaW.PrintWords Go.Proofs.YtimcbgonfjdgfaaW.PrintLast

/-- ReadVar: the reference asks of each beginning whether it is the Var of what it says; the program stops at the first byte below 128. Both are told by 'canon': is a list of bytes just what Var writes? -/
def lval : List Int → Int
  | [] => 0
  | b :: l => b % 128 + 128 * lval l
def canon : List Int → Bool
  | [] => false
  | [b] => decide (b < 128)
  | b :: c :: l => decide (b ≥ 128) && canon (c :: l) && !(decide ((c :: l) = [0]))
def enc : Nat → Int → List Int
  | 0, n => [n]
  | f + 1, n => if n ≥ 128 then (128 + n % 128) :: enc f (n / 128) else [n]
def bytes (l : List Int) : Prop := ∀ b ∈ l, 0 ≤ b ∧ b < 256
theorem lval_nonneg (l : List Int) (h : bytes l) : 0 ≤ lval l := by
  induction l with
  | nil => simp [lval]
  | cons b l ih =>
    have := ih (fun x hx => h x (List.mem_cons_of_mem _ hx))
    have := h b List.mem_cons_self
    simp only [lval]; omega
theorem lval_lt (l : List Int) (h : bytes l) : lval l < 128 ^ l.length := by
  induction l with
  | nil => simp [lval]
  | cons b l ih =>
    have := ih (fun x hx => h x (List.mem_cons_of_mem _ hx))
    have := h b List.mem_cons_self
    simp only [lval, List.length_cons, Int.pow_succ]; omega
theorem canon_pos (l : List Int) (h : bytes l) (hc : canon l = true) (hz : l ≠ [0]) : 0 < lval l := by
  induction l with
  | nil => simp [canon] at hc
  | cons b l ih =>
    have hb := h b List.mem_cons_self
    have hl : bytes l := fun x hx => h x (List.mem_cons_of_mem _ hx)
    have hn := lval_nonneg l hl
    cases l with
    | nil =>
      simp [canon] at hc
      simp only [lval]
      have : b ≠ 0 := fun e => hz (by rw [e])
      omega
    | cons c l =>
      simp only [canon, Bool.and_eq_true, Bool.not_eq_true', decide_eq_true_eq, decide_eq_false_iff_not] at hc
      have := ih hl hc.1.2 hc.2
      simp only [lval] at this ⊢
      omega
theorem enc_canon (l : List Int) : ∀ f, bytes l → l ≠ [] → l.length ≤ f + 1 → (enc f (lval l) = l ↔ canon l = true) := by
  induction l with
  | nil => intro f _ h; exact absurd rfl h
  | cons b l ih =>
    intro f h _ hf
    have hb := h b List.mem_cons_self
    have hl : bytes l := fun x hx => h x (List.mem_cons_of_mem _ hx)
    have hn := lval_nonneg l hl
    cases l with
    | nil =>
      have e : lval [b] = b % 128 := by simp [lval]
      have : enc f (b % 128) = [b % 128] := by
        cases f with
        | zero => rfl
        | succ f => rw [enc, if_neg (by omega)]
      rw [e, this]
      simp only [canon, decide_eq_true_eq, List.cons.injEq, and_true]
      omega
    | cons c l =>
      obtain ⟨f, rfl⟩ : ∃ g, f = g + 1 := ⟨f - 1, by simp at hf; omega⟩
      have e : lval (b :: c :: l) = b % 128 + 128 * lval (c :: l) := rfl
      generalize hv : lval (c :: l) = v at e hn
      rw [e, enc]
      have ih' := ih f hl (by simp) (by simpa using hf)
      rw [hv] at ih'
      by_cases h0 : v = 0
      · rw [if_neg (by omega)]
        constructor
        · intro he; simp at he
        · intro hc
          exfalso
          simp only [canon, Bool.and_eq_true, Bool.not_eq_true', decide_eq_true_eq, decide_eq_false_iff_not] at hc
          have := canon_pos (c :: l) hl hc.1.2 hc.2
          omega
      · rw [if_pos (by omega)]
        have e1 : (b % 128 + 128 * v) % 128 = b % 128 := by omega
        have e2 : (b % 128 + 128 * v) / 128 = v := by omega
        rw [e1, e2, List.cons.injEq, ih']
        simp only [canon, Bool.and_eq_true, Bool.not_eq_true', decide_eq_true_eq, decide_eq_false_iff_not]
        constructor
        · intro ⟨h1, h2⟩
          refine ⟨⟨by omega, h2⟩, fun hz => ?_⟩
          rw [hz] at hv
          simp [lval] at hv
          omega
        · intro ⟨⟨h1, h2⟩, _⟩
          exact ⟨by omega, h2⟩
/-- the reference's Var, as a list. -/
theorem var_enc (m : Nat) : ∀ k (x0 : Int) x3, 0 ≤ x0 → x0 < 562949953421312 → x0 < 128 ^ (m + 1) → m < k → x3.length + m ≤ 1000 → spec_Var.l0 k x0 x3 = some (strOfNums (x3 ++ enc m x0)) := by
  induction m with
  | zero =>
    intro k x0 x3 h0 hx hm hk hl
    obtain ⟨k, rfl⟩ : ∃ m, k = m + 1 := ⟨k - 1, by omega⟩
    simp only [spec_Var.l0]
    rw [if_neg (by omega), if_pos (by omega), enc, show x0 % 256 = x0 by omega]
  | succ m ih =>
    intro k x0 x3 h0 hx hm hk hl
    obtain ⟨k, rfl⟩ : ∃ m, k = m + 1 := ⟨k - 1, by omega⟩
    have hd : wrap64 (Int.tdiv x0 128) = x0 / 128 := by
      rw [Int.tdiv_eq_ediv_of_nonneg h0]; unfold wrap64; omega
    have hm2 : wrap64 (128 + Int.tmod x0 128) % 256 = 128 + x0 % 128 := by
      rw [Int.tmod_eq_emod_of_nonneg h0]; unfold wrap64; omega
    simp only [spec_Var.l0, hd, hm2, enc]
    by_cases h : x0 ≥ 128
    · have h3 : x3.length < 140737488355328 := by omega
      rw [if_pos h, if_pos h3, if_pos h, ih k _ _ (by omega) (by omega) ?_ (by omega) (by simp; omega)]
      · simp
      · rw [Int.pow_succ] at hm
        exact Int.ediv_lt_of_lt_mul (by omega) hm
    · rw [if_neg h, if_neg h, if_pos (by omega), show x0 % 256 = x0 by omega]
theorem var_f (k : Nat) (n : Int) (hk : 7 < k) (h0 : 0 ≤ n) (h1 : n ≤ 562949953421311) : spec_Var.f k n = some (strOfNums (enc 6 n)) := by
  unfold spec_Var.f spec_l1In.f
  have := var_enc 6 k n [] h0 (by omega) (by omega) (by omega) (by simp)
  simpa [h0, h1] using this
theorem enc_bytes (f : Nat) : ∀ n, 0 ≤ n → n < 128 ^ (f + 1) → bytes (enc f n) := by
  induction f with
  | zero =>
    intro n h0 h1 b hb
    simp [enc] at hb
    omega
  | succ f ih =>
    intro n h0 h1 b hb
    rw [enc] at hb
    split at hb
    · rcases List.mem_cons.1 hb with rfl | hb
      · omega
      · refine ih (n / 128) (by omega) ?_ b hb
        rw [Int.pow_succ] at h1
        exact Int.ediv_lt_of_lt_mul (by omega) h1
    · simp at hb
      omega
theorem bytesOf_str (l : List Int) (h : bytes l) : bytesOf (strOfNums l) = l := by
  unfold bytesOf strOfNums
  simp only [List.map_map]
  rw [List.map_congr_left (g := id)]
  · simp
  · intro b hb
    have := h b hb
    simp only [Function.comp, UInt8.toNat_ofNat', id]
    omega
theorem bytesOf_list (a b : ByteArray) : a.toList = b.toList ↔ bytesOf a = bytesOf b := by
  rw [Go.ByteArray.toList_eq, Go.ByteArray.toList_eq]
  unfold bytesOf
  constructor
  · intro h; rw [h]
  · intro h
    exact List.map_inj_right (f := fun b : UInt8 => (b.toNat : Int)) (fun x y hxy => UInt8.toNat_inj.1 (by have h2 : (x.toNat : Int) = (y.toNat : Int) := hxy; exact_mod_cast h2)) |>.1 h
theorem bytesOf_extract (s : ByteArray) (k : Nat) : bytesOf (s.extract 0 k) = (bytesOf s).take k := by
  unfold bytesOf
  rw [ByteArray.data_extract, Array.toList_extract]
  simp [List.map_take, List.extract]
theorem bytesOf_bytes (s : ByteArray) : bytes (bytesOf s) := by
  intro b hb
  unfold bytesOf at hb
  obtain ⟨c, _, rfl⟩ := List.mem_map.1 hb
  have := UInt8.toNat_lt c
  omega
theorem bt_get (s : ByteArray) (i : Nat) (h : i < (bytesOf s).length) : bt s (i : Int) = (bytesOf s)[i] := by
  rw [← rd_bytesOf]
  unfold rd
  simp [List.getD_eq_getElem?_getD, List.getElem?_eq_getElem h]
theorem canon_snoc (a : List Int) (b : Int) : canon (a ++ [b]) = true ↔ (∀ x ∈ a, x ≥ 128) ∧ b < 128 ∧ (b = 0 → a = []) := by
  induction a with
  | nil => simp [canon]
  | cons x a ih =>
    cases a with
    | nil =>
      simp [canon]
      omega
    | cons y a =>
      have e : canon (x :: y :: a ++ [b]) = (decide (x ≥ 128) && canon ((y :: a) ++ [b]) && !(decide ((y :: a) ++ [b] = [0]))) := rfl
      rw [e]
      simp only [Bool.and_eq_true, ih, decide_eq_true_eq, Bool.not_eq_true', decide_eq_false_iff_not, List.mem_cons]
      constructor
      · rintro ⟨⟨h1, h2, h3, h4⟩, _⟩
        refine ⟨?_, h3, fun h => by have := h4 h; simp at this⟩
        rintro z (rfl | hz)
        · exact h1
        · exact h2 z (by simpa using hz)
      · rintro ⟨h1, h2, h3⟩
        refine ⟨⟨h1 x (Or.inl rfl), fun z hz => h1 z (Or.inr (by simpa using hz)), h2, fun h => by have := h3 h; simp at this⟩, by simp⟩
theorem lval_snoc (a : List Int) (b : Int) : lval (a ++ [b]) = lval a + b % 128 * 128 ^ a.length := by
  induction a with
  | nil => simp [lval]
  | cons x a ih =>
    simp only [List.cons_append, lval, ih, List.length_cons, Int.pow_succ]
    rw [Int.mul_add, Int.mul_comm (128 ^ a.length) 128, ← Int.mul_assoc, ← Int.mul_assoc, Int.mul_comm 128 (b % 128)]
    omega
/-- the reference's inner loop: the number that the first k bytes say. -/
theorem inner (s : ByteArray) (m : Nat) (hm : m ≤ 7) (hs : m ≤ s.size) (d : Nat) : ∀ k (i : Nat) , i ≤ m → d = i → d + 10 < k →
    spec_ReadVar.l1 k s m (lval (((bytesOf s).take m).drop i)) ((i : Int) - 1) =
      (if canon ((bytesOf s).take m) = true ∧ m ≠ 0 then some (lval ((bytesOf s).take m), (m : Int)) else spec_ReadVar.l0 (k - 1 - d) s (wrap64 ((m : Int) + 1))) := by
  have hb := bytesOf_bytes s
  have hlen := bytesOf_length s
  have htb : bytes ((bytesOf s).take m) := fun b hh => hb b (List.mem_of_mem_take hh)
  have htl : ((bytesOf s).take m).length = m := by rw [List.length_take]; omega
  induction d with
  | zero =>
    intro k i hi hd hk
    obtain ⟨k, rfl⟩ : ∃ m, k = m + 1 := ⟨k - 1, by omega⟩
    obtain rfl : i = 0 := hd.symm
    have h0 := lval_nonneg _ htb
    have h1 := lval_lt _ htb
    have h2 : (128 : Int) ^ ((bytesOf s).take m).length ≤ 128 ^ 7 := by
      have : (128 : Nat) ^ ((bytesOf s).take m).length ≤ 128 ^ 7 := Nat.pow_le_pow_right (by omega) (by omega)
      exact_mod_cast this
    simp only [spec_ReadVar.l1, List.drop_zero]
    rw [if_neg (by omega), var_f k _ (by omega) h0 (by omega)]
    simp only [Option.bind_some]
    rw [if_pos (by omega), if_pos (by omega)]
    have e : ((strOfNums (enc 6 (lval ((bytesOf s).take m)))).toList = (s.extract 0 ((m : Int) : Int).toNat).toList) ↔ (canon ((bytesOf s).take m) = true ∧ m ≠ 0) := by
      rw [bytesOf_list, bytesOf_str _ (enc_bytes 6 _ h0 (by omega)), bytesOf_extract, Int.toNat_natCast]
      by_cases hz : m = 0
      · subst hz
        simp [canon, lval, enc]
      · have hne : (bytesOf s).take m ≠ [] := fun h => by rw [h] at htl; simp at htl; omega
        rw [enc_canon _ 6 htb hne (by omega)]
        simp [hz]
    by_cases hc : canon ((bytesOf s).take m) = true ∧ m ≠ 0
    · rw [if_pos (e.2 hc), if_pos hc]
    · rw [if_neg (fun h => hc (e.1 h)), if_neg hc]
      simp
  | succ d ih =>
    intro k i hi hd hk
    obtain ⟨k, rfl⟩ : ∃ m, k = m + 1 := ⟨k - 1, by omega⟩
    obtain ⟨i, rfl⟩ : ∃ j, i = j + 1 := ⟨i - 1, by omega⟩
    have hil : i < ((bytesOf s).take m).length := by omega
    have e0 : ((i + 1 : Nat) : Int) - 1 = (i : Int) := by omega
    have e1 : bt s (i : Int) = ((bytesOf s).take m)[i] := by
      rw [bt_get s i (by omega), List.getElem_take]
    have hbr := bt_range s (i : Int)
    have htb2 : bytes (((bytesOf s).take m).drop (i + 1)) := fun b hh => htb b (List.mem_of_mem_drop hh)
    have h0 := lval_nonneg _ htb2
    have h1 := lval_lt _ htb2
    have h2 : (128 : Int) ^ (((bytesOf s).take m).drop (i + 1)).length ≤ 128 ^ 6 := by
      have : (128 : Nat) ^ (((bytesOf s).take m).drop (i + 1)).length ≤ 128 ^ 6 := Nat.pow_le_pow_right (by omega) (by rw [List.length_drop]; omega)
      exact_mod_cast this
    have e2 : wrap64 ((wrap64 (lval (((bytesOf s).take m).drop (i + 1)) * 128)) + (Int.tmod (wrap64 (bt s (i : Int))) 128)) = lval (((bytesOf s).take m).drop i) := by
      rw [List.drop_eq_getElem_cons hil, lval, ← e1, show wrap64 (bt s (i : Int)) = bt s (i : Int) by unfold wrap64; omega, Int.tmod_eq_emod_of_nonneg (by omega)]
      unfold wrap64
      omega
    have e3 : wrap64 ((i : Int) - 1) = (i : Int) - 1 := by unfold wrap64; omega
    simp only [spec_ReadVar.l1, e0, e2, e3]
    rw [if_pos (by omega), if_pos (by omega), if_pos (by omega), ih k i (by omega) (by omega) (by omega)]
    rw [show k - 1 - d = k + 1 - 1 - (d + 1) by omega]
/-- the reference's loop at m, from a round on. -/
theorem outer (s : ByteArray) (hs : s.size ≤ 1048576) (m : Nat) (k : Nat) (hk : 30 < k) (h0 : 0 < m) :
    spec_ReadVar.l0 k s (m : Int) = (if m ≤ 7 ∧ m ≤ s.size then (if canon ((bytesOf s).take m) = true then some (lval ((bytesOf s).take m), (m : Int)) else spec_ReadVar.l0 (k - 3 - m) s ((m + 1 : Nat) : Int)) else some (0, 0)) := by
  obtain ⟨k, rfl⟩ : ∃ m, k = m + 2 := ⟨k - 2, by omega⟩
  simp only [spec_ReadVar.l0]
  by_cases h1 : m ≤ 7
  · rw [if_pos (by omega)]
    by_cases h2 : m ≤ s.size
    · have h2' : (m : Int) ≤ (s.size : Int) := by omega
      rw [decide_eq_true h2', if_pos ⟨h1, h2⟩]
      simp only [spec_ReadVar.j1, if_true]
      have e := inner s m h1 h2 m k m (by omega) rfl (by omega)
      have hd : ((bytesOf s).take m).drop m = [] := List.drop_eq_nil_of_le (by rw [List.length_take]; omega)
      rw [hd] at e
      have e1 : wrap64 ((m : Int) - 1) = (m : Int) - 1 := by unfold wrap64; omega
      have e2 : wrap64 ((m : Int) + 1) = ((m + 1 : Nat) : Int) := by unfold wrap64; omega
      rw [e1, show (0 : Int) = lval [] from rfl, e, e2]
      by_cases hc : canon ((bytesOf s).take m) = true
      · rw [if_pos ⟨hc, by omega⟩, if_pos hc]
      · rw [if_neg (fun h => hc h.1), if_neg hc, show k - 1 - m = k + 2 - 3 - m by omega]
    · have h2' : ¬ (m : Int) ≤ (s.size : Int) := by omega
      rw [decide_eq_false h2', if_neg (fun h => h2 h.2)]
      simp [spec_ReadVar.j1]
  · rw [if_neg (by omega), if_neg (fun h => h1 h.1)]
    simp [spec_ReadVar.j1]
/-- behind a byte below 128 no beginning is a Var. -/
theorem never (s : ByteArray) (hs : s.size ≤ 1048576) (j : Nat) (hj : j < (bytesOf s).length) (hlow : (bytesOf s)[j] < 128) (d : Nat) : ∀ k m, j + 1 < m → 8 ≤ m + d → 30 + 12 * d < k → spec_ReadVar.l0 k s ((m : Nat) : Int) = some (0, 0) := by
  have hlen := bytesOf_length s
  induction d with
  | zero =>
    intro k m hm hd hk
    rw [outer s hs m k (by omega) (by omega), if_neg (by omega)]
  | succ d ih =>
    intro k m hm hd hk
    rw [outer s hs m k (by omega) (by omega)]
    by_cases h : m ≤ 7 ∧ m ≤ s.size
    · rw [if_pos h, if_neg, ih _ _ (by omega) (by omega) (by omega)]
      intro hc
      have hml : ((bytesOf s).take m) = (bytesOf s).take (m - 1) ++ [(bytesOf s)[m - 1]'(by omega)] := by
        have := List.take_succ_eq_append_getElem (l := bytesOf s) (i := m - 1) (by omega)
        rw [show m - 1 + 1 = m by omega] at this
        exact this
      rw [hml, canon_snoc] at hc
      have hmem : (bytesOf s)[j] ∈ (bytesOf s).take (m - 1) := by
        rw [List.mem_take_iff_getElem]
        exact ⟨j, by omega, rfl⟩
      have := hc.1 _ hmem
      omega
    · rw [if_neg h]
theorem shl_sept (x : Int) (i : Nat) (h0 : 0 ≤ x) (hx : x < 128) (hi : i < 7) : shl .i64 x (7 * (i : Int)) = x * 128 ^ i := by
  unfold shl
  have e : min (7 * (i : Int)).toNat IntKind.i64.bits = 7 * i := by
    simp only [IntKind.bits]; omega
  rw [e, Int.pow_mul, Go.IntKind.wrap_i64, show ((2 : Int) ^ 7) = 128 from rfl]
  have : i = 0 ∨ i = 1 ∨ i = 2 ∨ i = 3 ∨ i = 4 ∨ i = 5 ∨ i = 6 := by omega
  rcases this with rfl | rfl | rfl | rfl | rfl | rfl | rfl <;> omega
theorem readvar_both (s : ByteArray) (hs : s.size ≤ 1048576) (d : Nat) : ∀ k (i : Nat), 7 ≤ i + d → i ≤ 7 → i ≤ s.size → (∀ x ∈ (bytesOf s).take i, x ≥ 128) → 200 + 40 * d < k →
    ∃ r, spec_ReadVar.l0 k s ((i + 1 : Nat) : Int) = some r ∧ impl_ReadVar.l0 k s (lval ((bytesOf s).take i)) (i : Int) = some r := by
  have hlen := bytesOf_length s
  have hb := bytesOf_bytes s
  induction d with
  | zero =>
    intro k i hd hi his hbig hk
    obtain rfl : i = 7 := by omega
    rw [outer s hs _ k (by omega) (by omega), if_neg (by omega)]
    obtain ⟨k, rfl⟩ : ∃ m, k = m + 2 := ⟨k - 2, by omega⟩
    simp [impl_ReadVar.l0, impl_ReadVar.j1]
  | succ d ih =>
    intro k i hd hi his hbig hk
    rw [outer s hs _ k (by omega) (by omega)]
    have hs1 := hk
    obtain ⟨k, rfl⟩ : ∃ m, k = m + 2 := ⟨k - 2, by omega⟩
    by_cases h7 : i < 7
    · by_cases hl : i < s.size
      · have hlI : (i : Int) < (s.size : Int) := by omega
        have h7I : (i : Int) < 7 := by omega
        rw [if_pos ⟨by omega, by omega⟩]
        have htk : (bytesOf s).take (i + 1) = (bytesOf s).take i ++ [bt s (i : Int)] := by
          rw [bt_get s i (by omega)]
          exact List.take_succ_eq_append_getElem (by omega)
        have hbr := bt_range s (i : Int)
        have hti : bytes ((bytesOf s).take i) := fun b hh => hb b (List.mem_of_mem_take hh)
        have htil : ((bytesOf s).take i).length = i := by rw [List.length_take]; omega
        have g0 := lval_nonneg _ hti
        have g1 := lval_lt _ hti
        rw [htil] at g1
        have hi7 : i = 0 ∨ i = 1 ∨ i = 2 ∨ i = 3 ∨ i = 4 ∨ i = 5 ∨ i = 6 := by omega
        have q0 : 0 ≤ bt s (i : Int) % 128 ∧ bt s (i : Int) % 128 < 128 := by omega
        have c1 : 0 ≤ (i : Int) := by omega
        have c2 : 0 ≤ 7 * (i : Int) := by omega
        have e5 : wrap64 (lval ((bytesOf s).take i) + bt s (i : Int) % 128 * 128 ^ i) = lval ((bytesOf s).take (i + 1)) := by
          rw [htk, lval_snoc, htil]
          generalize lval ((bytesOf s).take i) = u at g0 g1 ⊢
          generalize bt s (i : Int) % 128 = v at q0 ⊢
          have hw : ∀ x : Int, 0 ≤ x → x < 1152921504606846976 → wrap64 x = x := by intro x hx hy; unfold wrap64; omega
          clear htk hti htil hbr hlen hb ih hbig hk
          rcases hi7 with rfl | rfl | rfl | rfl | rfl | rfl | rfl <;> rw [hw _ (by omega) (by omega)]
        clear g0 g1
        have e1 : wrap64 (bt s (i : Int)) = bt s (i : Int) := by unfold wrap64; omega
        have e2 : wrap64 (7 * (i : Int)) = 7 * (i : Int) := by unfold wrap64; omega
        have e3 : wrap64 ((i : Int) + 1) = ((i + 1 : Nat) : Int) := by unfold wrap64; omega
        have e4 : Int.tmod (bt s (i : Int)) 128 = bt s (i : Int) % 128 := Int.tmod_eq_emod_of_nonneg (by omega)
        simp only [impl_ReadVar.l0]
        rw [if_pos h7I, decide_eq_true hlI]
        simp only [impl_ReadVar.j1, if_true, e1, e2, e3, e4, shl_sept (bt s (i : Int) % 128) i q0.1 q0.2 h7, e5]
        clear e1 e2 e3 e4 e5
        simp only [if_pos c1, if_pos hlI, if_pos c2]
        by_cases hbig2 : bt s (i : Int) ≥ 128
        · have hnc : ¬ canon ((bytesOf s).take (i + 1)) = true := by
            intro hc
            rw [htk, canon_snoc] at hc
            omega
          rw [if_pos hbig2, if_neg hnc]
          · have hk2 : 200 + 40 * d < k := by omega
            obtain ⟨r, h1, h2⟩ := ih (k + 2 - 3 - (i + 1)) (i + 1) (by omega) (by omega) (by omega) (by
              intro x hx
              rw [htk] at hx
              rcases List.mem_append.1 hx with hx | hx
              · exact hbig x hx
              · simp at hx; omega) (by omega)
            exact ⟨r, h1, at_rounds (fun k => impl_ReadVar.mono_l k |>.1 _ _ _) (by omega) h2⟩
        · rw [if_neg hbig2]
          by_cases hz : bt s (i : Int) = 0 ∧ (i : Int) > 0
          · have hnc : ¬ canon ((bytesOf s).take (i + 1)) = true := by
              intro hc
              rw [htk, canon_snoc] at hc
              have := hc.2.2 hz.1
              rw [this] at htil
              simp at htil
              omega
            rw [if_pos hz.1, if_pos hz.2, if_neg hnc]
            exact ⟨(0, 0), never s hs i (by omega) (by rw [← bt_get s i (by omega)]; omega) 8 _ (i + 1 + 1) (by omega) (by omega) (by omega), rfl⟩
          · have hc : canon ((bytesOf s).take (i + 1)) = true := by
              rw [htk, canon_snoc]
              refine ⟨hbig, by omega, fun h => ?_⟩
              have : i = 0 := by omega
              subst this
              rfl
            rw [if_pos hc]
            refine ⟨_, rfl, ?_⟩
            by_cases hz1 : bt s (i : Int) = 0
            · rw [if_pos hz1, if_neg (fun h => hz ⟨hz1, h⟩)]
            · rw [if_neg hz1]
      · rw [if_neg (by omega)]
        have hlI : ¬ (i : Int) < (s.size : Int) := by omega
        have h7I : (i : Int) < 7 := by omega
        simp only [impl_ReadVar.l0]
        rw [if_pos h7I, decide_eq_false hlI]
        simp [impl_ReadVar.j1]
    · rw [if_neg (by omega)]
      have h7I : ¬ (i : Int) < 7 := by omega
      simp only [impl_ReadVar.l0]
      rw [if_neg h7I]
      simp [impl_ReadVar.j1]
theorem FnExactReadVar : laws_FnExactReadVar.Pure := by
  intro s _
  unfold laws_FnExactReadVar.f
  by_cases h : (s.size : Int) > 1048576
  · exact ⟨0, by rw [if_pos h]⟩
  · obtain ⟨r, h1, h2⟩ := readvar_both s (by omega) 7 1000 0 (by omega) (by omega) (by omega) (by simp) (by omega)
    refine ⟨1000, ?_⟩
    rw [if_neg h]
    unfold spec_ReadVar.f impl_ReadVar.f
    have h1' : spec_ReadVar.l0 1000 s 1 = some r := h1
    have h2' : impl_ReadVar.l0 1000 s 0 0 = some r := h2
    rw [h1', h2']
    simp

end Go.Proofs.Ytimcbgonfjdgfaa.Pure
