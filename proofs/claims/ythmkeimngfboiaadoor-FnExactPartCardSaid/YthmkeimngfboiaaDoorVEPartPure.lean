/- PureFnExactPart, of the words and walks that the law FnExactPart needs; made by this session's program out of printed texts. -/

import Derived.Test.YthmkeimngfboiaaDoorVEPartSay
import Derived.Laws.Strings
import Derived.Laws.BitsLemmas
set_option linter.unusedVariables false
set_option linter.unusedSimpArgs false
namespace Go.Proofs.YthmkeimngfboiaaDoor.Pure
open Go.RowKit Go.Proofs.YthmkeimngfboiaaDoor.PFnExactPart Go.Proofs.YthmkeimngfboiaaDoorW.PrintWords Go.Proofs.YthmkeimngfboiaaDoorW.PrintLast Go.Proofs.YthmkeimngfboiaaDoor.SayFnExactPart
theorem wrap_next (i : Nat) (h : i < 4611686018427387904) : wrap64 ((i : Int) + 1) = ((i + 1 : Nat) : Int) := by unfold wrap64; omega
theorem set_grown {α : Type} {x m : List α} {i : Nat} (hl : x.length = m.length) (h : ∀ j, j < i → x[j]? = m[j]?) (hi : i < m.length) {v : α} (hv : m[i]? = some v) : (x.set i v).length = m.length ∧ ∀ j, j < i + 1 → (x.set i v)[j]? = m[j]? := by
  refine ⟨by rw [List.length_set, hl], fun j hj => ?_⟩
  by_cases e : j = i
  · subst e
    rw [List.getElem?_set_self (by omega), hv]
  · rw [List.getElem?_set_ne (by omega)]
    exact h j (by omega)
theorem all_grown {α : Type} {x m : List α} (hl : x.length = m.length) (h : ∀ j, j < m.length → x[j]? = m[j]?) : x = m := by
  apply List.ext_getElem? ; intro j
  by_cases hj : j < m.length
  · exact h j hj
  · rw [List.getElem?_eq_none (by omega), List.getElem?_eq_none (by omega)]
theorem rdL_get (xs : List S50) (i : Nat) (h : i < xs.length) : rd_T50 xs (i : Int) = xs[i] := by
  unfold rd_T50
  simp [List.getD_eq_getElem?_getD, List.getElem?_eq_getElem h]
theorem rdN_get (xs : List S54) (i : Nat) (h : i < xs.length) : rd_T54 xs (i : Int) = xs[i] := by
  unfold rd_T54
  simp [List.getD_eq_getElem?_getD, List.getElem?_eq_getElem h]
def nodeOf (x : S50) : S54 := ⟨x.f0, x.f1, x.f2, x.f3, x.f4, x.f5, x.f6⟩
theorem sz_loop (l : List S50) (hg : ∀ x ∈ l, x.f5.size ≤ 9223372036854775807 ∧ x.f6.size ≤ 9223372036854775807) (hn : l.length ≤ 1048576) (d : Nat) : ∀ k (i : Nat) (left : Int), i + d = l.length → 0 ≤ left → left ≤ 1048576 → d < k →
    ∃ r, laws_szNodeS.l0 k l left i = some r ∧ r ≤ left ∧ (0 ≤ r → ∀ (j : Nat) (hj : j < l.length), i ≤ j → l[j].f5.size ≤ 1048576 ∧ l[j].f6.size ≤ 1048576) := by
  induction d with
  | zero =>
    intro k i left hd h0 h1 hk
    obtain ⟨k, rfl⟩ : ∃ m, k = m + 1 := ⟨k - 1, by omega⟩
    have c : ¬ (i : Int) < (l.length : Int) := by omega
    simp only [laws_szNodeS.l0, if_neg c]
    exact ⟨left, rfl, by omega, fun _ j hj hij => by omega⟩
  | succ d ih =>
    intro k i left hd h0 h1 hk
    obtain ⟨k, rfl⟩ : ∃ m, k = m + 1 := ⟨k - 1, by omega⟩
    have c : (i : Int) < (l.length : Int) := by omega
    have hi : i < l.length := by omega
    have c0 : 0 ≤ (i : Int) := Int.natCast_nonneg i
    have hgi := hg l[i] (List.getElem_mem hi)
    simp only [laws_szNodeS.l0, if_pos c, if_pos c0, rdL_get l i hi, wrap_next i (by omega), laws_szNode.f]
    have e1 : wrap64 (left - (l[i].f5.size : Int)) = left - (l[i].f5.size : Int) := by unfold wrap64; omega
    rw [e1]
    by_cases a1 : left - (l[i].f5.size : Int) < 0
    · simp only [if_pos a1, Option.bind_some]
      exact ⟨-1, by simp, by omega, fun h => by omega⟩
    · have e2 : wrap64 (left - (l[i].f5.size : Int) - (l[i].f6.size : Int)) = left - (l[i].f5.size : Int) - (l[i].f6.size : Int) := by unfold wrap64; omega
      simp only [if_neg a1, e2]
      by_cases a2 : left - (l[i].f5.size : Int) - (l[i].f6.size : Int) < 0
      · simp only [if_pos a2, Option.bind_some]
        exact ⟨-1, by simp, by omega, fun h => by omega⟩
      · simp only [if_neg a2, Option.bind_some]
        obtain ⟨r, h2, h3, h4⟩ := ih k (i + 1) (left - (l[i].f5.size : Int) - (l[i].f6.size : Int)) (by omega) (by omega) (by omega) (by omega)
        refine ⟨r, h2, by omega, fun h j hj hij => ?_⟩
        by_cases e : i = j
        · subst e
          omega
        · exact h4 h j hj (by omega)
theorem sz_nodes (l : List S50) (hl : l.length ≤ 9223372036854775807) (hg : ∀ x ∈ l, x.f5.size ≤ 9223372036854775807 ∧ x.f6.size ≤ 9223372036854775807) (left : Int) (h0 : 0 ≤ left) (h1 : left ≤ 1048576) (k : Nat) (hk : 1048576 < k) :
    ∃ r, laws_szNodeS.f k l left = some r ∧ r ≤ left ∧ (0 ≤ r → l.length ≤ 1048576 ∧ ∀ x ∈ l, x.f5.size ≤ 1048576 ∧ x.f6.size ≤ 1048576) := by
  unfold laws_szNodeS.f
  have e : wrap64 (left - (l.length : Int)) = left - (l.length : Int) := by unfold wrap64; omega
  rw [e]
  by_cases h : left - (l.length : Int) < 0
  · rw [if_pos h]
    exact ⟨-1, rfl, by omega, fun h => by omega⟩
  · rw [if_neg h]
    obtain ⟨r, h2, h3, h4⟩ := sz_loop l hg (by omega) l.length k 0 (left - (l.length : Int)) (by omega) (by omega) (by omega) (by omega)
    refine ⟨r, h2, by omega, fun h => ⟨by omega, fun x hx => ?_⟩⟩
    obtain ⟨j, hj, rfl⟩ := List.getElem_of_mem hx
    exact h4 h j hj (by omega)
theorem to_loop (l : List S50) (hn : l.length ≤ 1048576) (d : Nat) : ∀ k (i : Nat) (x : List S54), i + d = l.length → x.length = (l.map nodeOf).length → (∀ j, j < i → x[j]? = (l.map nodeOf)[j]?) → d < k →
    laws_toNodeS.l0 k l x i = some (l.map nodeOf) := by
  induction d with
  | zero =>
    intro k i x hd hx hp hk
    obtain ⟨k, rfl⟩ : ∃ m, k = m + 1 := ⟨k - 1, by omega⟩
    have c : ¬ (i : Int) < (l.length : Int) := by omega
    simp only [laws_toNodeS.l0, if_neg c]
    rw [all_grown hx (fun j hj => hp j (by simp at hj; omega))]
  | succ d ih =>
    intro k i x hd hx hp hk
    obtain ⟨k, rfl⟩ : ∃ m, k = m + 1 := ⟨k - 1, by omega⟩
    have hxl : x.length = l.length := by simpa using hx
    have c : (i : Int) < (l.length : Int) := by omega
    have c2 : (i : Int) < (x.length : Int) := by omega
    have hi : i < l.length := by omega
    have c0 : 0 ≤ (i : Int) := Int.natCast_nonneg i
    simp only [laws_toNodeS.l0, laws_toNode.f, Option.bind_some, if_pos c, if_pos c0, if_pos c2, rdL_get l i hi, wrap_next i (by omega), Int.toNat_natCast]
    obtain ⟨h1, h2⟩ := set_grown (v := nodeOf l[i]) hx hp (by simpa using hi) (by simp [List.getElem?_eq_getElem hi])
    exact ih k (i + 1) _ (by omega) h1 h2 (by omega)
theorem to_nodes (l : List S50) (hn : l.length ≤ 1048576) (k : Nat) (hk : 1048576 < k) : laws_toNodeS.f k l = some (l.map nodeOf) := by
  unfold laws_toNodeS.f
  have c1 : 0 ≤ (l.length : Int) := Int.natCast_nonneg _
  have c2 : ((l.length : Int)).toNat ≤ 3909374676536 := by omega
  rw [if_pos c1, if_pos c2]
  exact to_loop l hn l.length k 0 _ (by omega) (by simp) (fun j hj => by omega) (by omega)
theorem eq_loop (l : List S54) (hn : l.length ≤ 1048576) (d : Nat) : ∀ k (i : Nat), i + d = l.length → d < k → laws_eqNodeS.l0 k l l i = some true := by
  induction d with
  | zero =>
    intro k i hd hk
    obtain ⟨k, rfl⟩ : ∃ m, k = m + 1 := ⟨k - 1, by omega⟩
    have c : ¬ (i : Int) < (l.length : Int) := by omega
    simp only [laws_eqNodeS.l0, if_neg c]
  | succ d ih =>
    intro k i hd hk
    obtain ⟨k, rfl⟩ : ∃ m, k = m + 1 := ⟨k - 1, by omega⟩
    have c : (i : Int) < (l.length : Int) := by omega
    have c0 : 0 ≤ (i : Int) := Int.natCast_nonneg i
    simp only [laws_eqNodeS.l0, laws_eqNode.f, if_true, Option.bind_some, if_pos c, if_pos c0, wrap_next i (by omega)]
    exact ih k (i + 1) (by omega) (by omega)
theorem eq_nodes (l : List S54) (hn : l.length ≤ 1048576) (k : Nat) (hk : 1048576 < k) : laws_eqNodeS.f k l l = some true := by
  unfold laws_eqNodeS.f
  rw [if_pos rfl]
  exact eq_loop l hn l.length k 0 (by omega) (by omega)
theorem ev_step {α : Type} {g : Nat → Option α} {r : α} (h : Ev (fun k => g (k + 1)) r) : Ev g r := Ev.step (fun _ => rfl) h
theorem ev_bind {α β : Type} {g : Nat → Option α} {f : Nat → α → Option β} {a : α} {r : β} (h : Ev g a) (k : Ev (fun n => f n a) r) : Ev (fun n => (g n).bind (f n)) r := Ev.bind h k
theorem ev_const {α : Type} (r : α) : Ev (fun _ => some r) r := Ev.now r
theorem ev_at {α : Type} {g : Nat → Option α} {r : α} (n : Nat) (h : ∀ k, n ≤ k → g k = some r) : Ev g r := ⟨n, h⟩
theorem ev_eq {α : Type} {g : Nat → Option α} {r q : α} (h : Ev g r) (e : r = q) : Ev g q := e ▸ h
def keyList : List ByteArray := [(⟨#[102, 117, 110]⟩ : ByteArray), (⟨#[97, 112, 112]⟩ : ByteArray), (⟨#[108, 101, 116]⟩ : ByteArray), (⟨#[114, 101, 99]⟩ : ByteArray), (⟨#[105, 102]⟩ : ByteArray), (⟨#[97, 100, 100]⟩ : ByteArray), (⟨#[115, 117, 98]⟩ : ByteArray), (⟨#[108, 101, 115, 115]⟩ : ByteArray), (⟨#[115, 97, 109, 101]⟩ : ByteArray), (⟨#[112, 97, 105, 114]⟩ : ByteArray), (⟨#[102, 115, 116]⟩ : ByteArray), (⟨#[115, 110, 100]⟩ : ByteArray), (⟨#[110, 105, 108]⟩ : ByteArray), (⟨#[99, 111, 110, 115]⟩ : ByteArray), (⟨#[109, 97, 116, 99, 104]⟩ : ByteArray), (⟨#[114, 101, 102]⟩ : ByteArray), (⟨#[103, 101, 116]⟩ : ByteArray), (⟨#[115, 101, 116]⟩ : ByteArray), (⟨#[114, 97, 105, 115, 101]⟩ : ByteArray), (⟨#[116, 114, 121]⟩ : ByteArray)]
theorem key_split : strings_Split.f 60 (⟨#[102, 117, 110, 32, 97, 112, 112, 32, 108, 101, 116, 32, 114, 101, 99, 32, 105, 102, 32, 97, 100, 100, 32, 115, 117, 98, 32, 108, 101, 115, 115, 32, 115, 97, 109, 101, 32, 112, 97, 105, 114, 32, 102, 115, 116, 32, 115, 110, 100, 32, 110, 105, 108, 32, 99, 111, 110, 115, 32, 109, 97, 116, 99, 104, 32, 114, 101, 102, 32, 103, 101, 116, 32, 115, 101, 116, 32, 114, 97, 105, 115, 101, 32, 116, 114, 121]⟩ : ByteArray) (⟨#[32]⟩ : ByteArray) = some keyList := by decide +kernel
def isKeyM (s : ByteArray) : Bool := keyList.any fun x => decide (x.toList = s.toList)
theorem rds_get (g : List ByteArray) (i : Nat) (h : i < g.length) : rdOf ByteArray.empty g (i : Int) = g[i] := by
  unfold rdOf
  simp [List.getD_eq_getElem?_getD, List.getElem?_eq_getElem h]
theorem key_loops (s : ByteArray) (L : List ByteArray) (hL : L.length ≤ 1048576) (m : Nat) : ∀ i : Nat, i + m = L.length → Ev (fun k => spec_IsKey.l0 k s L i) ((L.drop i).any fun x => decide (x.toList = s.toList)) ∧ Ev (fun k => impl_IsKey.l0 k s L (L.length : Int) i) ((L.drop i).any fun x => decide (x.toList = s.toList)) := by
  induction m with
  | zero =>
    intro i hi
    have c : ¬ (i : Int) < (L.length : Int) := by omega
    rw [List.drop_of_length_le (by omega)]
    constructor
    · apply ev_step
      simp only [spec_IsKey.l0, if_neg c]
      exact ev_const false
    · apply ev_step
      simp only [impl_IsKey.l0, if_neg c]
      exact ev_const false
  | succ m ih =>
    intro i hi
    have c : (i : Int) < (L.length : Int) := by omega
    have c0 : 0 ≤ (i : Int) := Int.natCast_nonneg i
    have hi' : i < L.length := by omega
    obtain ⟨h1, h2⟩ := ih (i + 1) (by omega)
    rw [List.drop_eq_getElem_cons hi', List.any_cons]
    constructor
    · apply ev_step
      simp only [spec_IsKey.l0, if_pos c, if_pos c0, wrap_next i (by omega), rds_get L i hi']
      by_cases e : L[i].toList = s.toList
      · simp only [if_pos e]
        simpa [e] using ev_const true
      · simp only [if_neg e]
        simpa [e] using h1
    · apply ev_step
      simp only [impl_IsKey.l0, if_pos c, if_pos c0, wrap_next i (by omega), rds_get L i hi']
      by_cases e : L[i].toList = s.toList
      · simp only [if_pos e]
        simpa [e] using ev_const true
      · simp only [if_neg e]
        simpa [e] using h2
theorem spec_isKey (s : ByteArray) : Ev (fun k => spec_IsKey.f k s) (isKeyM s) := by
  have h := (key_loops s keyList (by decide) keyList.length 0 (by decide)).1
  unfold spec_IsKey.f
  simp only [spec_l3Keys.f, Option.bind_some]
  exact h
theorem impl_isKey (s : ByteArray) : Ev (fun k => impl_IsKey.f k s) (isKeyM s) := by
  have h := (key_loops s keyList (by decide) keyList.length 0 (by decide)).2
  unfold impl_IsKey.f
  exact ev_bind (Ev.of (fun k => strings_Split.mono _ _ k) key_split) h
theorem toList_loop_len (b : ByteArray) : ∀ (m i : Nat) (acc : List UInt8), b.size - i = m → (ByteArray.toList.loop b i acc).length = acc.length + m := by
  intro m
  induction m with
  | zero => intro i acc h; unfold ByteArray.toList.loop; rw [if_neg (by omega)]; simp
  | succ m ih => intro i acc h; unfold ByteArray.toList.loop; rw [if_pos (by omega), ih (i + 1) _ (by omega)]; simp; omega
theorem toList_len (b : ByteArray) : b.toList.length = b.size := by
  unfold ByteArray.toList
  rw [toList_loop_len b b.size 0 [] (by omega)]
  simp
theorem rd_get (xs : List Int) (i : Nat) (h : i < xs.length) : rd xs (i : Int) = xs[i] := by
  unfold rd
  simp [List.getD_eq_getElem?_getD, List.getElem?_eq_getElem h]
theorem in_same (a b c : Int) : impl_in.f a b c = spec_l1In.f a b c := rfl
theorem in_some (a b c : Int) : spec_l1In.f a b c = some (decide (b ≤ a ∧ a ≤ c)) := by
  unfold spec_l1In.f
  by_cases h : a ≥ b
  · rw [if_pos h]
    by_cases h2 : a ≤ c
    · rw [decide_eq_true h2, decide_eq_true ⟨h, h2⟩]
    · rw [decide_eq_false h2, decide_eq_false (by omega)]
  · rw [if_neg h, decide_eq_false (by omega)]
def ar (a : Int) : Nat := if a = 3 ∨ a = 10 ∨ a = 11 ∨ a = 15 ∨ a = 16 ∨ a = 18 then 1 else if a = 4 ∨ a = 5 ∨ a = 6 ∨ a = 8 ∨ a = 9 ∨ a = 13 ∨ a = 17 ∨ a = 19 then 2 else if a = 7 ∨ a = 14 then 3 else 0
def nm (a : Int) : Nat := if a = 1 ∨ a = 3 ∨ a = 5 ∨ a = 19 then 1 else if a = 6 ∨ a = 14 then 2 else 0
theorem ar_most (a : Int) : ar a ≤ 3 := by unfold ar; repeat' split <;> try omega
theorem nm_most (a : Int) : nm a = 0 ∨ nm a = 1 ∨ nm a = 2 := by unfold nm; repeat' split <;> try omega
theorem arity_at (a : Int) (k : Nat) : spec_Arity.f (k + 2) a = some (ar a : Int) := by
  by_cases h : a = 3 ∨ a = 10 ∨ a = 11 ∨ a = 15 ∨ a = 16 ∨ a = 18 ∨ a = 4 ∨ a = 5 ∨ a = 6 ∨ a = 8 ∨ a = 9 ∨ a = 13 ∨ a = 17 ∨ a = 19 ∨ a = 7 ∨ a = 14
  · rcases h with rfl | rfl | rfl | rfl | rfl | rfl | rfl | rfl | rfl | rfl | rfl | rfl | rfl | rfl | rfl | rfl <;> rfl
  · simp only [not_or] at h
    obtain ⟨h1, h2, h3, h4, h5, h6, h7, h8, h9, h10, h11, h12, h13, h14, h15, h16⟩ := h
    simp [spec_Arity.f, spec_Arity.j0, spec_Arity.j1, ar, h1, h2, h3, h4, h5, h6, h7, h8, h9, h10, h11, h12, h13, h14, h15, h16]
theorem spec_ar (a : Int) : Ev (fun k => spec_Arity.f k a) (ar a : Int) := ev_at 2 (fun k hk => by
  obtain ⟨k, rfl⟩ : ∃ m, k = m + 2 := ⟨k - 2, by omega⟩
  exact arity_at a k)
theorem impl_ar (a : Int) : Ev (fun k => impl_Arity.f k a) (ar a : Int) := ev_at 2 (fun k hk => by
  obtain ⟨k, rfl⟩ : ∃ m, k = m + 2 := ⟨k - 2, by omega⟩
  have e : impl_Arity.f (k + 2) a = spec_Arity.f (k + 2) a := by
    simp only [spec_Arity.f, impl_Arity.f, spec_Arity.j0, spec_Arity.j1, impl_Arity.j0, impl_Arity.j1]
  exact e.trans (arity_at a k))
theorem names_at (a : Int) (k : Nat) : spec_l3Names.f (k + 2) a = some (nm a : Int) := by
  by_cases h : a = 1 ∨ a = 3 ∨ a = 5 ∨ a = 19 ∨ a = 6 ∨ a = 14
  · rcases h with rfl | rfl | rfl | rfl | rfl | rfl <;> rfl
  · simp only [not_or] at h
    obtain ⟨h1, h2, h3, h4, h5, h6⟩ := h
    simp [spec_l3Names.f, spec_l3Names.j0, nm, h1, h2, h3, h4, h5, h6]
theorem spec_nm (a : Int) : Ev (fun k => spec_l3Names.f k a) (nm a : Int) := ev_at 2 (fun k hk => by
  obtain ⟨k, rfl⟩ : ∃ m, k = m + 2 := ⟨k - 2, by omega⟩
  exact names_at a k)
theorem impl_nm (a : Int) : Ev (fun k => impl_namesOf.f k a) (nm a : Int) := ev_at 2 (fun k hk => by
  obtain ⟨k, rfl⟩ : ∃ m, k = m + 2 := ⟨k - 2, by omega⟩
  have e : impl_namesOf.f (k + 2) a = spec_l3Names.f (k + 2) a := by
    simp only [spec_l3Names.f, impl_namesOf.f, spec_l3Names.j0, impl_namesOf.j0]
  exact e.trans (names_at a k))
def kidsM (n : S54) : List Int := [n.f1, n.f2, n.f3].take (ar n.f0)
theorem kidsM_len (n : S54) : (kidsM n).length = ar n.f0 := by
  have := ar_most n.f0
  unfold kidsM
  rw [List.length_take]
  simp only [List.length_cons, List.length_nil]
  omega
theorem spec_kids (n : S54) : Ev (fun k => spec_Kids.f k n.f0 n.f1 n.f2 n.f3 n.f4 n.f5 n.f6) (kidsM n) := by
  have h := ar_most n.f0
  unfold spec_Kids.f
  simp only [Option.bind_some]
  refine ev_bind (spec_ar n.f0) ?_
  have c1 : (0 : Int) ≤ (ar n.f0 : Int) := by omega
  have c2 : (ar n.f0 : Int) ≤ (([n.f1, n.f2, n.f3] : List Int).length : Int) := by simp only [List.length_cons, List.length_nil]; omega
  simp only [if_pos c1, if_pos c2, Int.toNat_natCast]
  exact ev_const _
theorem impl_kids (n : S54) : Ev (fun k => impl_Kids.f k n.f0 n.f1 n.f2 n.f3 n.f4 n.f5 n.f6) (kidsM n) := by
  have h := ar_most n.f0
  unfold impl_Kids.f
  simp only [Option.bind_some]
  refine ev_bind (impl_ar n.f0) (ev_bind (impl_ar n.f0) ?_)
  have c1 : (0 : Int) ≤ (ar n.f0 : Int) := by omega
  have c2 : (ar n.f0 : Int) ≤ (([n.f1, n.f2, n.f3] : List Int).length : Int) := by simp only [List.length_cons, List.length_nil]; omega
  have c3 : (ar n.f0 : Int) ≤ (ar n.f0 : Int) := Int.le_refl _
  simp only [if_pos c1, if_pos c2, if_pos c3, Int.toNat_natCast]
  exact ev_const _
def wordM (s : ByteArray) : Bool := ((List.range' 0 s.size).all fun (i : Nat) => decide (97 ≤ bt s i) && decide (bt s i ≤ 122)) && decide (1 ≤ (s.size : Int) ∧ (s.size : Int) ≤ 8)
def nameM (s : ByteArray) : Bool := wordM s && !isKeyM s
theorem word_loops (s : ByteArray) (hn : s.size ≤ 1048576) (m : Nat) : ∀ i : Nat, i + m = s.size →
    Ev (fun k => spec_IsWord.l0 k s i) (((List.range' i m).all fun (i : Nat) => decide (97 ≤ bt s i) && decide (bt s i ≤ 122)) && decide (1 ≤ (s.size : Int) ∧ (s.size : Int) ≤ 8)) ∧
    Ev (fun k => impl_IsWord.l0 k s i) (((List.range' i m).all fun (i : Nat) => decide (97 ≤ bt s i) && decide (bt s i ≤ 122)) && decide (1 ≤ (s.size : Int) ∧ (s.size : Int) ≤ 8)) := by
  induction m with
  | zero =>
    intro i hi
    have c : ¬ (i : Int) < (s.size : Int) := by omega
    constructor
    · apply ev_step
      simp only [spec_IsWord.l0, if_neg c, in_some, Option.bind_some]
      exact ev_const _
    · apply ev_step
      simp only [impl_IsWord.l0, if_neg c, in_same, in_some, Option.bind_some]
      exact ev_const _
  | succ m ih =>
    intro i hi
    obtain ⟨h1, h2⟩ := ih (i + 1) (by omega)
    have c : (i : Int) < (s.size : Int) := by omega
    have c0 : 0 ≤ (i : Int) := Int.natCast_nonneg i
    rw [List.range'_succ, List.all_cons]
    constructor
    · apply ev_step
      simp only [spec_IsWord.l0, if_pos c, if_pos c0, wrap_next i (by omega), spec_l2Letter.f]
      by_cases a1 : bt s i ≥ 97
      · simp only [if_pos a1, Option.bind_some]
        by_cases a2 : bt s i ≤ 122
        · simp only [decide_eq_true a2, if_true]
          simpa [decide_eq_true (show 97 ≤ bt s i from a1)] using h1
        · simp only [decide_eq_false a2, Bool.false_eq_true, if_false]
          simpa using ev_const false
      · simp only [if_neg a1, Option.bind_some, Bool.false_eq_true, if_false]
        simpa [decide_eq_false (show ¬ 97 ≤ bt s i from a1)] using ev_const false
    · apply ev_step
      simp only [impl_IsWord.l0, if_pos c, if_pos c0, wrap_next i (by omega)]
      by_cases a1 : bt s i < 97
      · simp only [if_pos a1]
        simpa [decide_eq_false (show ¬ 97 ≤ bt s i by omega)] using ev_const false
      · simp only [if_neg a1]
        by_cases a2 : bt s i > 122
        · simp only [if_pos a2]
          simpa [decide_eq_false (show ¬ bt s i ≤ 122 by omega)] using ev_const false
        · simp only [if_neg a2]
          simpa [decide_eq_true (show 97 ≤ bt s i by omega), decide_eq_true (show bt s i ≤ 122 by omega)] using h2
theorem spec_word (s : ByteArray) (hn : s.size ≤ 1048576) : Ev (fun k => spec_IsWord.f k s) (wordM s) := (word_loops s hn s.size 0 (by omega)).1
theorem impl_word (s : ByteArray) (hn : s.size ≤ 1048576) : Ev (fun k => impl_IsWord.f k s) (wordM s) := (word_loops s hn s.size 0 (by omega)).2
theorem spec_name (s : ByteArray) (hn : s.size ≤ 1048576) : Ev (fun k => spec_l3Name.f k s) (nameM s) := by
  unfold spec_l3Name.f nameM
  refine ev_bind (spec_word s hn) ?_
  cases wordM s
  · simp only [Bool.false_eq_true, if_false]
    exact ev_const _
  · simp only [if_true]
    exact ev_bind (spec_isKey s) (ev_const _)
theorem impl_name (s : ByteArray) (hn : s.size ≤ 1048576) : Ev (fun k => impl_isName.f k s) (nameM s) := by
  unfold impl_isName.f nameM
  refine ev_bind (impl_word s hn) ?_
  cases wordM s
  · simp only [Bool.false_eq_true, if_false]
    exact ev_const _
  · simp only [if_true]
    exact ev_bind (impl_isKey s) (ev_const _)
theorem name_some {s : ByteArray} (h : nameM s = true) : s.toList ≠ [] := by
  intro e
  have l := toList_len s
  rw [e] at l
  unfold nameM wordM at h
  simp at h l
  omega
def fitsM (s : ByteArray) (b : Bool) : Bool := if b = true then nameM s else s.toList == []
theorem impl_fits (s : ByteArray) (hn : s.size ≤ 1048576) (b : Bool) : Ev (fun k => impl_nameFits.f k s b) (fitsM s b) := by
  unfold impl_nameFits.f fitsM
  cases b
  · simp only [Bool.false_eq_true, if_false]
    exact ev_const _
  · simp only [if_true]
    exact ev_bind (impl_name s hn) (ev_const _)
def zeroM (n : S54) : Bool := decide ((ar n.f0 < 1 → n.f1 = 0) ∧ (ar n.f0 < 2 → n.f2 = 0) ∧ (ar n.f0 < 3 → n.f3 = 0))
def numM (n : S54) : Bool := if n.f0 = 2 then decide (0 ≤ n.f4 ∧ n.f4 ≤ 65535) else if n.f0 = 8 then decide (0 ≤ n.f4 ∧ n.f4 ≤ 3) else n.f4 == 0
def fieldsM (n : S54) : Bool := decide (1 ≤ n.f0 ∧ n.f0 ≤ 19) && (zeroM n && (fitsM n.f5 (decide (nm n.f0 > 0)) && (fitsM n.f6 (decide (nm n.f0 > 1)) && numM n)))
def small (n : S54) : Prop := n.f5.size ≤ 1048576 ∧ n.f6.size ≤ 1048576
theorem spec_f1 (n : S54) (b : Bool) : Ev (fun k => spec_l3Fields.j1 k b n.f0 n.f1 n.f2 n.f3 n.f4 n.f5 n.f6) (!b && numM n) := by
  apply ev_step
  simp only [spec_l3Fields.j1, in_some, Option.bind_some]
  cases b
  · simp only [Bool.false_eq_true, if_false, Bool.not_false, Bool.true_and]
    unfold numM
    split
    · exact ev_const _
    · split
      · exact ev_const _
      · exact ev_const _
  · simp only [if_true]
    exact ev_const false
theorem spec_other (n : S54) (hs : small n) (m : Nat) (hm : m = 0 ∨ m = 1 ∨ m = 2) : Ev (fun k => (spec_l3Name.f k n.f6).bind fun t => (if ((decide ((m : Int) > 1)) != t) = true then (spec_l3Fields.j1 k true n.f0 n.f1 n.f2 n.f3 n.f4 n.f5 n.f6) else (if (m : Int) < 2 then (spec_l3Fields.j1 k (n.f6.toList != ([] : List UInt8)) n.f0 n.f1 n.f2 n.f3 n.f4 n.f5 n.f6) else (spec_l3Fields.j1 k false n.f0 n.f1 n.f2 n.f3 n.f4 n.f5 n.f6)))) (fitsM n.f6 (decide (m > 1)) && numM n) := by
  refine ev_bind (spec_name n.f6 hs.2) ?_
  have e0 := @name_some n.f6
  have f1 := spec_f1 n true
  have f2 := spec_f1 n false
  have f3 := spec_f1 n (n.f6.toList != ([] : List UInt8))
  have hb : (n.f6.toList != ([] : List UInt8)) = !(n.f6.toList == ([] : List UInt8)) := rfl
  have e1 : nameM n.f6 = true → (n.f6.toList == ([] : List UInt8)) = false := fun h => by
    have := e0 h
    cases hh : n.f6.toList == ([] : List UInt8)
    · rfl
    · exact absurd (by simpa using hh) this
  unfold fitsM
  rw [hb] at f3 ⊢
  generalize (n.f6.toList == ([] : List UInt8)) = z at f3 e1 ⊢
  rcases hm with rfl | rfl | rfl
  · cases h : nameM n.f6
    · simpa using f3
    · simpa [e1 h] using f1
  · cases h : nameM n.f6
    · simpa using f3
    · simpa [e1 h] using f1
  · cases h : nameM n.f6
    · simpa [h] using f1
    · simpa [h] using f2
theorem spec_f0 (n : S54) (hs : small n) (b : Bool) : Ev (fun k => spec_l3Fields.j0 k b n.f0 n.f1 n.f2 n.f3 n.f4 n.f5 n.f6) (!b && (fitsM n.f5 (decide (nm n.f0 > 0)) && (fitsM n.f6 (decide (nm n.f0 > 1)) && numM n))) := by
  apply ev_step
  simp only [spec_l3Fields.j0]
  cases b
  rotate_left
  · simp only [if_true]
    exact ev_const false
  simp only [Bool.false_eq_true, if_false, Bool.not_false, Bool.true_and]
  refine ev_bind (spec_nm n.f0) (ev_bind (spec_name n.f5 hs.1) ?_)
  have e0 := @name_some n.f5
  have f1 := spec_f1 n true
  have f2 := spec_other n hs (nm n.f0) (nm_most n.f0)
  generalize nm n.f0 = m at f2 ⊢
  rcases Nat.eq_zero_or_pos m with h0 | h0
  · subst h0
    cases h : nameM n.f5
    · by_cases e : n.f5.toList = []
      · simpa [fitsM, e, h] using f2
      · have ez : fitsM n.f5 (decide (0 > 0)) = false := by
          unfold fitsM
          rw [if_neg (by decide)]
          cases hh : n.f5.toList == ([] : List UInt8)
          · rfl
          · exact absurd (by simpa using hh) e
        rw [ez]
        simpa [e, h] using f1
    · have ez : fitsM n.f5 (decide (0 > 0)) = false := by
        unfold fitsM
        rw [if_neg (by decide)]
        cases hh : n.f5.toList == ([] : List UInt8)
        · rfl
        · exact absurd (by simpa using hh) (e0 h)
      rw [ez]
      simpa [h] using f1
  · have c1 : (m : Int) > 0 := by omega
    have c2 : ¬ (m : Int) = 0 := by omega
    cases h : nameM n.f5
    · simp only [decide_eq_true c1, decide_eq_true (show m > 0 from h0)]
      simpa [fitsM, h] using f1
    · simp only [decide_eq_true c1, decide_eq_true (show m > 0 from h0), if_neg c2]
      simpa [fitsM, h] using f2
theorem spec_fields (n : S54) (hs : small n) : Ev (fun k => spec_l3Fields.f k n.f0 n.f1 n.f2 n.f3 n.f4 n.f5 n.f6) (fieldsM n) := by
  unfold spec_l3Fields.f
  simp only [in_some, Option.bind_some]
  unfold fieldsM
  by_cases h : 1 ≤ n.f0 ∧ n.f0 ≤ 19
  rotate_left
  · simp only [decide_eq_false h, Bool.false_eq_true, if_false]
    exact ev_const false
  simp only [decide_eq_true h, if_true, Bool.true_and]
  refine ev_bind (spec_ar n.f0) ?_
  have g0 := spec_f0 n hs false
  have g1 := spec_f0 n hs true
  have g2 := spec_f0 n hs (n.f3 != 0)
  generalize (fitsM n.f5 (decide (nm n.f0 > 0)) && (fitsM n.f6 (decide (nm n.f0 > 1)) && numM n)) = R at g0 g1 g2 ⊢
  have ha := ar_most n.f0
  unfold zeroM
  have hb3 : (n.f3 != 0) = !(decide (n.f3 = 0)) := rfl
  rw [hb3] at g2 ⊢
  generalize ar n.f0 = m at ha ⊢
  have hm : m = 0 ∨ m = 1 ∨ m = 2 ∨ m = 3 := by omega
  rcases hm with rfl | rfl | rfl | rfl
  · by_cases e1 : n.f1 = 0
    · by_cases e2 : n.f2 = 0
      · simpa [e1, e2] using g2
      · simpa [e1, e2] using g1
    · simpa [e1] using g1
  · by_cases e2 : n.f2 = 0
    · simpa [e2] using g2
    · simpa [e2] using g1
  · simpa using g2
  · simpa using g0
theorem impl_f_end (n : S54) (L : List Int) : Ev (fun k => impl_fieldsOk.l0 k L 3 3 n.f0 n.f1 n.f2 n.f3 n.f4 n.f5 n.f6) (numM n) := by
  apply ev_step
  have c : ¬ (3 : Int) < 3 := by omega
  simp only [impl_fieldsOk.l0, if_neg c, in_same, in_some, Option.bind_some]
  unfold numM
  split
  · exact ev_const _
  · split
    · exact ev_const _
    · exact ev_const _
theorem impl_f_step (n : S54) (L : List Int) (hL : L.length = 3) (j : Nat) (hj : j < 3) {R : Bool} (h : Ev (fun k => impl_fieldsOk.l0 k L 3 ((j + 1 : Nat) : Int) n.f0 n.f1 n.f2 n.f3 n.f4 n.f5 n.f6) R) :
    Ev (fun k => impl_fieldsOk.l0 k L 3 (j : Int) n.f0 n.f1 n.f2 n.f3 n.f4 n.f5 n.f6) (decide (ar n.f0 < j + 1 → L[j]'(by omega) = 0) && R) := by
  apply ev_step
  have c : (j : Int) < 3 := by omega
  have c0 : (0 : Int) ≤ (j : Int) := by omega
  have c1 : (j : Int) < (L.length : Int) := by omega
  simp only [impl_fieldsOk.l0, if_pos c, if_pos c0, if_pos c1, rd_get L j (by omega), wrap_next j (by omega)]
  refine ev_bind (impl_ar n.f0) ?_
  by_cases e : (j : Int) ≥ (ar n.f0 : Int)
  · simp only [if_pos e]
    have e' : ar n.f0 < j + 1 := by omega
    by_cases z : L[j]'(by omega) = 0
    · simp only [if_pos z]
      simpa [z] using h
    · simp only [if_neg z]
      simpa [z, e'] using ev_const false
  · simp only [if_neg e]
    have e' : ¬ ar n.f0 < j + 1 := by omega
    simpa [e'] using h
theorem impl_fields (n : S54) (hs : small n) : Ev (fun k => impl_fieldsOk.f k n.f0 n.f1 n.f2 n.f3 n.f4 n.f5 n.f6) (fieldsM n) := by
  have hj : ∀ b : Bool, Ev (fun k => impl_fieldsOk.j0 k b n.f0 n.f1 n.f2 n.f3 n.f4 n.f5 n.f6) (!b && (zeroM n && numM n)) := by
    intro b
    apply ev_step
    simp only [impl_fieldsOk.j0]
    cases b
    rotate_left
    · simp only [if_true]
      exact ev_const false
    simp only [Bool.false_eq_true, if_false, Bool.not_false, Bool.true_and, Option.bind_some]
    have h3 := impl_f_end n [n.f1, n.f2, n.f3]
    have h2 := impl_f_step n [n.f1, n.f2, n.f3] rfl 2 (by omega) h3
    have h1 := impl_f_step n [n.f1, n.f2, n.f3] rfl 1 (by omega) h2
    have h0 := impl_f_step n [n.f1, n.f2, n.f3] rfl 0 (by omega) h1
    refine ev_eq h0 ?_
    unfold zeroM
    simp only [Bool.decide_and, Bool.and_assoc]
    rfl
  unfold impl_fieldsOk.f
  simp only [in_same, in_some, Option.bind_some]
  unfold fieldsM
  by_cases h : 1 ≤ n.f0 ∧ n.f0 ≤ 19
  rotate_left
  · simp only [decide_eq_false h, Bool.false_eq_true, if_false]
    exact hj true
  simp only [decide_eq_true h, if_true, Bool.true_and]
  refine ev_bind (impl_nm n.f0) ?_
  have d1 : (decide ((nm n.f0 : Int) > 0)) = decide (nm n.f0 > 0) := decide_eq_decide.2 (by omega)
  have d2 : (decide ((nm n.f0 : Int) > 1)) = decide (nm n.f0 > 1) := decide_eq_decide.2 (by omega)
  refine ev_bind (impl_fits n.f5 hs.1 _) ?_
  rw [d1]
  cases hf : fitsM n.f5 (decide (nm n.f0 > 0))
  · simp only [Bool.false_eq_true, if_false]
    exact ev_eq (hj true) (by simp)
  · simp only [if_true]
    refine ev_bind (impl_nm n.f0) (ev_bind (impl_fits n.f6 hs.2 _) ?_)
    rw [d2]
    refine ev_eq (hj _) ?_
    cases zeroM n <;> cases fitsM n.f6 (decide (nm n.f0 > 1)) <;> rfl
def walkM (st : List Int) : Int → List Int → Option Int
  | a, [] => some a
  | a, c :: cs => if c = a - 1 ∧ 0 ≤ c then walkM st (rd st c) cs else none
def startsM : List S54 → List Int → Option (List Int)
  | [], st => some st
  | n :: ns, st => if fieldsM n = true then (match walkM st (st.length : Int) (kidsM n).reverse with | some a => startsM ns (st ++ [a]) | none => none) else none
def okM (l : List S54) : Bool := decide (1 ≤ (l.length : Int) ∧ (l.length : Int) ≤ 150) && (match startsM l [] with | some st => rd st ((l.length - 1 : Nat) : Int) == 0 | none => false)
def lowM (st : List Int) : Prop := ∀ (j : Nat) (h : j < st.length), 0 ≤ st[j] ∧ st[j] ≤ j
theorem walk_low {st : List Int} (hl : lowM st) : ∀ (cs : List Int) (a b : Int), 0 ≤ a → a ≤ st.length → walkM st a cs = some b → 0 ≤ b ∧ b ≤ a := by
  intro cs
  induction cs with
  | nil => intro a b h0 h1 h; simp [walkM] at h; omega
  | cons c cs ih =>
    intro a b h0 h1 h
    rw [walkM] at h
    split at h
    · rename_i hc
      obtain ⟨j, rfl⟩ : ∃ j : Nat, c = (j : Int) := ⟨c.toNat, by omega⟩
      have hj : j < st.length := by omega
      rw [rd_get st j hj] at h
      have := hl j hj
      have := ih _ _ this.1 (by omega) h
      omega
    · cases h
theorem low_next {st : List Int} (hl : lowM st) {b : Int} (h0 : 0 ≤ b) (h1 : b ≤ st.length) : lowM (st ++ [b]) := by
  intro j hj
  by_cases e : j < st.length
  · rw [List.getElem_append_left e]
    exact hl j e
  · have : j = st.length := by simp at hj; omega
    subst this
    simp
    omega
theorem wrap_prev (a : Int) (h0 : 0 ≤ a) (h : a ≤ 1048576) : wrap64 (a - 1) = a - 1 := by unfold wrap64; omega
theorem spec_s1 (l : List S54) (st : List Int) (hl : lowM st) (hn : st.length ≤ 1048576) (ks : List Int) (hk : ks.length ≤ 3) {R : List Int × Bool} :
    ∀ (m : Nat) (a : Int), m ≤ ks.length → 0 ≤ a → a ≤ st.length →
    (∀ b, walkM st a (ks.take m).reverse = some b → Ev (fun k => spec_l3Starts.l0 k l (st ++ [b]) ((st.length + 1 : Nat) : Int)) R) → (walkM st a (ks.take m).reverse = none → R = ([], false)) →
    Ev (fun k => spec_l3Starts.l1 k l st (st.length : Int) a ks ((m : Int) - 1)) R := by
  intro m
  induction m with
  | zero =>
    intro a hm h0 h1 hs hz
    apply ev_step
    have c : ¬ ((0 : Nat) : Int) - 1 ≥ 0 := by omega
    have c2 : st.length < 17592186044416 := by omega
    simp only [spec_l3Starts.l1, if_neg c, if_pos c2, wrap_next st.length (by omega)]
    exact hs a rfl
  | succ m ih =>
    intro a hm h0 h1 hs hz
    apply ev_step
    have e : ((m + 1 : Nat) : Int) - 1 = (m : Int) := by omega
    have c : (m : Int) ≥ 0 := by omega
    have c1 : 0 ≤ (m : Int) := by omega
    have c2 : (m : Int) < (ks.length : Int) := by omega
    have hm' : m < ks.length := by omega
    have er : (ks.take (m + 1)).reverse = ks[m] :: (ks.take m).reverse := by
      rw [List.take_succ_eq_append_getElem hm', List.reverse_append]
      rfl
    rw [er] at hs hz
    rw [e]
    simp only [spec_l3Starts.l1, if_pos c, if_pos c1, if_pos c2, rd_get ks m hm', wrap_prev a h0 (by omega), wrap_prev (m : Int) (by omega) (by omega)]
    generalize ks[m] = q at hs hz ⊢
    by_cases d : q = a - 1
    · simp only [if_pos d]
      by_cases d2 : q < 0
      · simp only [if_pos d2]
        rw [walkM, if_neg (by omega)] at hz
        rw [hz rfl]
        exact ev_const _
      · have d3 : 0 ≤ q := by omega
        have d4 : q < (st.length : Int) := by omega
        rw [walkM, if_pos ⟨d, d3⟩] at hz hs
        simp only [if_neg d2, if_pos d3, if_pos d4]
        obtain ⟨j, rfl⟩ : ∃ j : Nat, q = (j : Int) := ⟨q.toNat, by omega⟩
        have hj : j < st.length := by omega
        have := hl j hj
        rw [rd_get st j hj] at hs hz ⊢
        exact ih _ (by omega) this.1 (by omega) hs hz
    · simp only [if_neg d]
      rw [walkM, if_neg (by omega)] at hz
      rw [hz rfl]
      exact ev_const _
theorem spec_s0 (l : List S54) (hn : l.length ≤ 1048576) (hs : ∀ x ∈ l, small x) (m : Nat) : ∀ (st : List Int), lowM st → st.length + m = l.length →
    Ev (fun k => spec_l3Starts.l0 k l st (st.length : Int)) (match startsM (l.drop st.length) st with | some s => (s, true) | none => ([], false)) := by
  induction m with
  | zero =>
    intro st hl hm
    rw [List.drop_of_length_le (by omega)]
    apply ev_step
    have c : ¬ (st.length : Int) < (l.length : Int) := by omega
    simp only [spec_l3Starts.l0, if_neg c]
    exact ev_const _
  | succ m ih =>
    intro st hl hm
    have hi : st.length < l.length := by omega
    rw [List.drop_eq_getElem_cons hi]
    apply ev_step
    have c : (st.length : Int) < (l.length : Int) := by omega
    have c0 : 0 ≤ (st.length : Int) := by omega
    simp only [spec_l3Starts.l0, if_pos c, if_pos c0, rdN_get l st.length hi, startsM]
    refine ev_bind (spec_fields l[st.length] (hs _ (List.getElem_mem hi))) ?_
    cases hf : fieldsM l[st.length]
    · simp only [Bool.false_eq_true, if_false]
      exact ev_const _
    · simp only [if_true]
      refine ev_bind (spec_kids l[st.length]) ?_
      have hk := kidsM_len l[st.length]
      have ha := ar_most l[st.length].f0
      generalize kidsM l[st.length] = ks at hk ⊢
      have e : wrap64 ((ks.length : Int) - 1) = (ks.length : Int) - 1 := by unfold wrap64; omega
      rw [e]
      refine spec_s1 l st hl (by omega) ks (by omega) ks.length st.length (by omega) (by omega) (by omega) ?_ ?_
      · intro b hb
        rw [List.take_length] at hb
        rw [hb]
        have hw := walk_low hl _ _ _ (by omega) (by omega) hb
        have := ih (st ++ [b]) (low_next hl hw.1 hw.2) (by simp; omega)
        simpa using this
      · intro hb
        rw [List.take_length] at hb
        rw [hb]
theorem spec_starts (l : List S54) (hn : l.length ≤ 1048576) (hs : ∀ x ∈ l, small x) : Ev (fun k => spec_l3Starts.f k l) (match startsM l [] with | some s => (s, true) | none => ([], false)) := by
  have h := spec_s0 l hn hs l.length [] (by intro j hj; simp at hj) (by simp)
  exact h
theorem starts_len : ∀ (l : List S54) (st s : List Int), startsM l st = some s → s.length = st.length + l.length := by
  intro l
  induction l with
  | nil => intro st s h; simp [startsM] at h; subst h; simp
  | cons n ns ih =>
    intro st s h
    rw [startsM] at h
    split at h
    · split at h
      · have := ih _ _ h
        simp at this ⊢
        omega
      · cases h
    · cases h
theorem spec_ok (l : List S54) (hn : l.length ≤ 1048576) (hs : ∀ x ∈ l, small x) : Ev (fun k => spec_NodesOk.f k l) (okM l) := by
  unfold spec_NodesOk.f okM
  simp only [in_some, Option.bind_some]
  by_cases h : 1 ≤ (l.length : Int) ∧ (l.length : Int) ≤ 150
  rotate_left
  · simp only [decide_eq_false h, Bool.false_eq_true, if_false]
    exact ev_const false
  simp only [decide_eq_true h, if_true, Bool.true_and]
  refine ev_bind (spec_starts l hn hs) ?_
  have e : wrap64 ((l.length : Int) - 1) = ((l.length - 1 : Nat) : Int) := by unfold wrap64; omega
  rw [e]
  cases hst : startsM l [] with
  | none =>
    simp only [Bool.false_eq_true, if_false]
    exact ev_const false
  | some s =>
    have hlen := starts_len l [] s hst
    simp only [List.length_nil] at hlen
    have c0 : 0 ≤ ((l.length - 1 : Nat) : Int) := by omega
    have c1 : ((l.length - 1 : Nat) : Int) < (s.length : Int) := by omega
    simp only [if_true, if_pos c0, if_pos c1]
    exact ev_const _
theorem impl_s1 (l x st : List Int) (L L2 : List S54) (hx : x.length = L.length) (hp : ∀ j, j < st.length → x[j]? = st[j]?) (hi : st.length < L.length) (hl : lowM st) (hn : L.length ≤ 1048576) (ks : List Int) (hk : ks.length ≤ 3) {R : Bool} {q : Int} :
    ∀ (m : Nat) (a : Int), m ≤ ks.length → 0 ≤ a → a ≤ st.length →
    (∀ b, walkM st a (ks.take m).reverse = some b → Ev (fun k => impl_NodesOk.l0 k L (x.set st.length b) L2 q ((st.length + 1 : Nat) : Int)) R) → (walkM st a (ks.take m).reverse = none → R = false) →
    Ev (fun k => impl_NodesOk.l1 k L x (st.length : Int) ks a ((m : Int) - 1) L2 q (st.length : Int)) R := by
  intro m
  induction m with
  | zero =>
    intro a hm h0 h1 hs hz
    apply ev_step
    have c : ¬ ((0 : Nat) : Int) - 1 ≥ 0 := by omega
    have c2 : (st.length : Int) < (x.length : Int) := by omega
    have c3 : 0 ≤ (st.length : Int) := by omega
    simp only [impl_NodesOk.l1, if_neg c, if_pos c2, if_pos c3, wrap_next st.length (by omega), Int.toNat_natCast]
    exact hs a rfl
  | succ m ih =>
    intro a hm h0 h1 hs hz
    apply ev_step
    have e : ((m + 1 : Nat) : Int) - 1 = (m : Int) := by omega
    have c : (m : Int) ≥ 0 := by omega
    have c1 : 0 ≤ (m : Int) := by omega
    have c2 : (m : Int) < (ks.length : Int) := by omega
    have hm' : m < ks.length := by omega
    have er : (ks.take (m + 1)).reverse = ks[m] :: (ks.take m).reverse := by
      rw [List.take_succ_eq_append_getElem hm', List.reverse_append]
      rfl
    rw [er] at hs hz
    rw [e]
    simp only [impl_NodesOk.l1, if_pos c, if_pos c1, if_pos c2, rd_get ks m hm', wrap_prev a h0 (by omega), wrap_prev (m : Int) (by omega) (by omega)]
    generalize ks[m] = y at hs hz ⊢
    by_cases d0 : a = 0
    · simp only [if_pos d0]
      rw [walkM, if_neg (by omega)] at hz
      rw [hz rfl]
      exact ev_const _
    · simp only [if_neg d0]
      by_cases d : y = a - 1
      · have d3 : 0 ≤ a - 1 := by omega
        have d4 : a - 1 < (x.length : Int) := by omega
        simp only [if_pos d, if_pos d3, if_pos d4]
        subst d
        rw [walkM, if_pos ⟨rfl, d3⟩] at hz hs
        obtain ⟨j, hj⟩ : ∃ j : Nat, a - 1 = (j : Int) := ⟨(a - 1).toNat, by omega⟩
        rw [hj] at hs hz ⊢
        have hj2 : j < st.length := by omega
        have := hl j hj2
        have ex : rd x (j : Int) = st[j] := by
          rw [rd_get x j (by omega)]
          have := hp j hj2
          rw [List.getElem?_eq_getElem (by omega), List.getElem?_eq_getElem hj2] at this
          exact Option.some.inj this
        rw [ex]
        rw [rd_get st j hj2] at hs hz
        exact ih _ (by omega) this.1 (by omega) hs hz
      · simp only [if_neg d]
        rw [walkM, if_neg (by omega)] at hz
        rw [hz rfl]
        exact ev_const _
theorem impl_s0 (l : List S54) (h1 : 1 ≤ l.length) (hn : l.length ≤ 1048576) (hs : ∀ x ∈ l, small x) (m : Nat) : ∀ (st x : List Int), lowM st → x.length = l.length → (∀ j, j < st.length → x[j]? = st[j]?) → st.length + m = l.length →
    Ev (fun k => impl_NodesOk.l0 k l x l (l.length : Int) (st.length : Int)) (match startsM (l.drop st.length) st with | some s => rd s ((l.length - 1 : Nat) : Int) == 0 | none => false) := by
  induction m with
  | zero =>
    intro st x hl hx hp hm
    rw [List.drop_of_length_le (by omega)]
    apply ev_step
    have c : ¬ (st.length : Int) < (l.length : Int) := by omega
    have e : wrap64 ((l.length : Int) - 1) = ((l.length - 1 : Nat) : Int) := by unfold wrap64; omega
    have c0 : 0 ≤ ((l.length - 1 : Nat) : Int) := by omega
    have c1 : ((l.length - 1 : Nat) : Int) < (x.length : Int) := by omega
    have ex : x = st := all_grown (by omega) hp
    simp only [impl_NodesOk.l0, if_neg c, e, if_pos c0, if_pos c1, startsM]
    rw [ex]
    exact ev_const _
  | succ m ih =>
    intro st x hl hx hp hm
    have hi : st.length < l.length := by omega
    rw [List.drop_eq_getElem_cons hi]
    apply ev_step
    have c : (st.length : Int) < (l.length : Int) := by omega
    have c0 : 0 ≤ (st.length : Int) := by omega
    simp only [impl_NodesOk.l0, if_pos c, if_pos c0, rdN_get l st.length hi, startsM]
    refine ev_bind (impl_fields l[st.length] (hs _ (List.getElem_mem hi))) ?_
    cases hf : fieldsM l[st.length]
    · simp only [Bool.false_eq_true, if_false]
      exact ev_const _
    · simp only [if_true]
      refine ev_bind (impl_kids l[st.length]) ?_
      have hk := kidsM_len l[st.length]
      have ha := ar_most l[st.length].f0
      generalize kidsM l[st.length] = ks at hk ⊢
      have e : wrap64 ((ks.length : Int) - 1) = (ks.length : Int) - 1 := by unfold wrap64; omega
      rw [e]
      refine impl_s1 [] x st l l hx hp hi hl hn ks (by omega) ks.length st.length (by omega) (by omega) (by omega) ?_ ?_
      · intro b hb
        rw [List.take_length] at hb
        rw [hb]
        have hw := walk_low hl _ _ _ (by omega) (by omega) hb
        have := ih (st ++ [b]) (x.set st.length b) (low_next hl hw.1 hw.2) (by rw [List.length_set]; exact hx) ?_ (by simp; omega)
        · simpa using this
        · intro j hj
          by_cases e : j < st.length
          · rw [List.getElem?_set_ne (by omega), List.getElem?_append_left e]
            exact hp j e
          · have : j = st.length := by simp at hj; omega
            subst this
            rw [List.getElem?_set_self (by omega)]
            simp
      · intro hb
        rw [List.take_length] at hb
        rw [hb]
theorem impl_ok (l : List S54) (hn : l.length ≤ 1048576) (hs : ∀ x ∈ l, small x) : Ev (fun k => impl_NodesOk.f k l) (okM l) := by
  unfold impl_NodesOk.f okM
  simp only [in_same, in_some, Option.bind_some]
  by_cases h : 1 ≤ (l.length : Int) ∧ (l.length : Int) ≤ 150
  rotate_left
  · simp only [decide_eq_false h, Bool.false_eq_true, if_false]
    exact ev_const false
  simp only [decide_eq_true h, if_true, Bool.true_and]
  have c0 : 0 ≤ (l.length : Int) := by omega
  have c1 : ((l.length : Int)).toNat ≤ 35184372088832 := by omega
  simp only [if_pos c0, if_pos c1]
  exact impl_s0 l (by omega) hn hs l.length [] _ (by intro j hj; simp at hj) (by simp) (by intro j hj; simp at hj) (by simp)
theorem walk_more {st : List Int} (t : List Int) (hl : lowM st) : ∀ (cs : List Int) (a b : Int), 0 ≤ a → a ≤ st.length → walkM st a cs = some b → walkM (st ++ t) a cs = some b := by
  intro cs
  induction cs with
  | nil => intro a b _ _ h; exact h
  | cons c cs ih =>
    intro a b h0 h1 h
    rw [walkM] at h ⊢
    split at h
    · rename_i hc
      rw [if_pos hc]
      obtain ⟨j, rfl⟩ : ∃ j : Nat, c = (j : Int) := ⟨c.toNat, by omega⟩
      have hj : j < st.length := by omega
      rw [rd_get st j hj] at h
      rw [rd_get (st ++ t) j (by simp; omega), List.getElem_append_left hj]
      have := hl j hj
      exact ih _ _ this.1 (by omega) h
    · cases h
structure Tree (l : List S54) (st : List Int) : Prop where
  len : st.length = l.length
  low : lowM st
  node : ∀ (i : Nat) (h : i < l.length), fieldsM l[i] = true ∧ walkM st (i : Int) (kidsM l[i]).reverse = some (st[i]'(by omega))
theorem starts_tree : ∀ (ns : List S54) (st0 st : List Int), lowM st0 → startsM ns st0 = some st → lowM st ∧ (∃ t, st = st0 ++ t) ∧ ∀ (i : Nat) (h : i < ns.length) (h2 : st0.length + i < st.length), fieldsM ns[i] = true ∧ walkM st ((st0.length + i : Nat) : Int) (kidsM ns[i]).reverse = some st[st0.length + i] := by
  intro ns
  induction ns with
  | nil => intro st0 st hl h; simp [startsM] at h; subst h; exact ⟨hl, ⟨[], by simp⟩, fun i h => by simp at h⟩
  | cons n ns ih =>
    intro st0 st hl h
    rw [startsM] at h
    split at h
    · rename_i hf
      split at h
      · rename_i a hw
        have hb := walk_low hl _ _ _ (by omega) (by omega) hw
        obtain ⟨h1, ⟨t, rfl⟩, h3⟩ := ih _ _ (low_next hl hb.1 hb.2) h
        refine ⟨h1, ⟨[a] ++ t, by simp⟩, ?_⟩
        intro i hi h2
        cases i with
        | zero =>
          refine ⟨hf, ?_⟩
          have := walk_more ([a] ++ t) hl _ _ _ (by omega) (by omega) hw
          simp only [List.getElem_cons_zero, Nat.add_zero]
          rw [← List.append_assoc] at this
          rw [this]
          congr 1
          simp
        | succ i =>
          have e : st0.length + (i + 1) = (st0 ++ [a]).length + i := by simp; omega
          have := h3 i (by simpa using hi) (by omega)
          simp only [List.getElem_cons_succ]
          refine ⟨this.1, ?_⟩
          have h4 := this.2
          simp only [e]
          exact h4
      · cases h
    · cases h
theorem tree_of {l : List S54} {st : List Int} (h : startsM l [] = some st) : Tree l st := by
  have h0 : lowM ([] : List Int) := by intro j hj; simp at hj
  obtain ⟨h1, _, h3⟩ := starts_tree l [] st h0 h
  have hlen := starts_len l [] st h
  simp only [List.length_nil, Nat.zero_add] at hlen
  refine ⟨hlen, h1, fun i hi => ?_⟩
  have := h3 i hi (by simp; omega)
  simpa using this
theorem ok_tree {l : List S54} (h : okM l = true) : 1 ≤ l.length ∧ l.length ≤ 150 ∧ ∃ st, startsM l [] = some st ∧ Tree l st ∧ rd st ((l.length - 1 : Nat) : Int) = 0 := by
  unfold okM at h
  rw [Bool.and_eq_true] at h
  obtain ⟨h1, h2⟩ := h
  have h1 := of_decide_eq_true h1
  refine ⟨by omega, by omega, ?_⟩
  cases hs : startsM l [] with
  | none => rw [hs] at h2; cases h2
  | some st => rw [hs] at h2; exact ⟨st, rfl, tree_of hs, by simpa using h2⟩
theorem walk_split (st : List Int) (ys : List Int) : ∀ (xs : List Int) (a : Int), walkM st a (xs ++ ys) = (walkM st a xs).bind fun b => walkM st b ys := by
  intro xs
  induction xs with
  | nil => intro a; rfl
  | cons x xs ih =>
    intro a
    simp only [List.cons_append, walkM]
    split
    · exact ih _
    · rfl
theorem walk_kid {st : List Int} (hl : lowM st) : ∀ (cs : List Int) (a b : Int), 0 ≤ a → a ≤ st.length → walkM st a cs = some b → ∀ c ∈ cs, 0 ≤ c ∧ c < a := by
  intro cs
  induction cs with
  | nil => intro a b _ _ _ c hc; cases hc
  | cons x cs ih =>
    intro a b h0 h1 h c hc
    rw [walkM] at h
    split at h
    · rename_i hx
      obtain ⟨j, rfl⟩ : ∃ j : Nat, x = (j : Int) := ⟨x.toNat, by omega⟩
      have hj : j < st.length := by omega
      rw [rd_get st j hj] at h
      have := hl j hj
      rcases List.mem_cons.1 hc with rfl | hc
      · omega
      · have := ih _ _ this.1 (by omega) h c hc
        omega
    · cases h
theorem Tree.kid {l : List S54} {st : List Int} (h : Tree l st) (i : Nat) (hi : i < l.length) : ∀ c ∈ kidsM l[i], 0 ≤ c ∧ c < i := by
  intro c hc
  have := h.len
  exact walk_kid h.low _ _ _ (by omega) (by omega) (h.node i hi).2 c (List.mem_reverse.2 hc)
theorem kids_first (n : S54) (h : 0 < ar n.f0) : ∃ r, kidsM n = n.f1 :: r := by
  unfold kidsM
  obtain ⟨m, hm⟩ : ∃ m, ar n.f0 = m + 1 := ⟨ar n.f0 - 1, by omega⟩
  rw [hm]
  exact ⟨_, rfl⟩
theorem Tree.first {l : List S54} {st : List Int} (h : Tree l st) (i : Nat) (hi : i < l.length) (ha : 0 < ar l[i].f0) : 0 ≤ l[i].f1 ∧ l[i].f1 < i ∧ rd st l[i].f1 = rd st i := by
  obtain ⟨r, hr⟩ := kids_first l[i] ha
  have hk := h.kid i hi l[i].f1 (by rw [hr]; exact List.mem_cons_self)
  refine ⟨hk.1, hk.2, ?_⟩
  have hw := (h.node i hi).2
  rw [hr, List.reverse_cons, walk_split] at hw
  cases hb : walkM st (i : Int) r.reverse with
  | none => rw [hb] at hw; cases hw
  | some b =>
    rw [hb] at hw
    simp only [Option.bind_some, walkM] at hw
    split at hw
    · rw [rd_get st i (by have := h.len; omega)]
      exact Option.some.inj hw
    · cases hw
theorem Tree.leaf {l : List S54} {st : List Int} (h : Tree l st) (i : Nat) (hi : i < l.length) (ha : ar l[i].f0 = 0) : rd st i = i := by
  have hw := (h.node i hi).2
  have e : kidsM l[i] = [] := by unfold kidsM; rw [ha]; rfl
  rw [e] at hw
  rw [rd_get st i (by have := h.len; omega)]
  exact (Option.some.inj hw).symm
theorem node_small {a : List S50} (lb : ∀ x ∈ a, x.f5.size ≤ 1048576 ∧ x.f6.size ≤ 1048576) : ∀ x ∈ a.map nodeOf, small x := by
  intro x hx
  obtain ⟨y, hy, rfl⟩ := List.mem_map.1 hx
  exact lb y hy
theorem ev_nodes (a : List S50) (la : a.length ≤ 1048576) : Ev (fun k => laws_toNodeS.f k a) (a.map nodeOf) := Ev.of (fun k => laws_toNodeS.mono _ k) (to_nodes a la 1048577 (by omega))
theorem ev_same (l : List S54) (ln : l.length ≤ 1048576) : Ev (fun k => laws_eqNodeS.f k l l) true := Ev.of (fun k => laws_eqNodeS.mono _ _ k) (eq_nodes l ln 1048577 (by omega))
theorem in_place (l : List S54) (i : Int) (hn : 1 ≤ l.length ∧ l.length ≤ 150) : spec_l1In.f i 0 (wrap64 ((l.length : Int) - 1)) = some (decide (0 ≤ i ∧ i < l.length)) := by
  have e : wrap64 ((l.length : Int) - 1) = (l.length : Int) - 1 := by unfold wrap64; omega
  rw [e, in_some]
  congr 1
  exact decide_eq_decide.2 (by omega)
theorem start_loop {l : List S54} {st : List Int} (h : Tree l st) (m : Nat) : ∀ i : Nat, i < m → i < l.length → Ev (fun k => impl_startOf.l0 k l i) (rd st i) := by
  induction m with
  | zero => intro i h0; omega
  | succ m ih =>
    intro i h0 hi
    apply ev_step
    have c0 : 0 ≤ (i : Int) := by omega
    have c1 : (i : Int) < (l.length : Int) := by omega
    simp only [impl_startOf.l0, if_pos c0, if_pos c1, rdN_get l i hi]
    refine ev_bind (impl_ar _) ?_
    by_cases ha : 0 < ar l[i].f0
    · have c2 : (ar l[i].f0 : Int) > 0 := by omega
      simp only [if_pos c2]
      obtain ⟨g0, g1, g2⟩ := h.first i hi ha
      rw [← g2]
      obtain ⟨j, hj⟩ : ∃ j : Nat, l[i].f1 = (j : Int) := ⟨l[i].f1.toNat, by omega⟩
      rw [hj] at g1 ⊢
      exact ih j (by omega) (by omega)
    · have c2 : ¬ (ar l[i].f0 : Int) > 0 := by omega
      simp only [if_neg c2]
      rw [h.leaf i hi (by omega)]
      exact ev_const _
def startM (l : List S54) (i : Int) : Int := if okM l = true ∧ 0 ≤ i ∧ i < l.length then (match startsM l [] with | some st => rd st i | none => -1) else -1
theorem start_both (l : List S54) (i : Int) (hn : l.length ≤ 1048576) (hs : ∀ x ∈ l, small x) : Ev (fun k => spec_StartOf.f k l i) (startM l i) ∧ Ev (fun k => impl_StartOf.f k l i) (startM l i) := by
  unfold spec_StartOf.f impl_StartOf.f startM
  cases ho : okM l
  · constructor
    · refine ev_bind (spec_ok l hn hs) ?_
      rw [ho]
      simpa using ev_const (-1)
    · refine ev_bind (impl_ok l hn hs) ?_
      rw [ho]
      simpa using ev_const (-1)
  · obtain ⟨n1, n2, st, e1, tr, e2⟩ := ok_tree ho
    have ep := in_place l i ⟨n1, n2⟩
    by_cases hi : 0 ≤ i ∧ i < l.length
    · rw [decide_eq_true hi] at ep
      rw [if_pos ⟨rfl, hi⟩, e1]
      constructor
      · refine ev_bind (spec_ok l hn hs) ?_
        rw [ho]
        simp only [if_true, ep, Option.bind_some]
        refine ev_bind (spec_starts l hn hs) ?_
        rw [e1]
        have c : i < (st.length : Int) := by rw [tr.len]; exact hi.2
        simp only [if_pos hi.1, if_pos c]
        exact ev_const _
      · refine ev_bind (impl_ok l hn hs) ?_
        rw [ho]
        simp only [if_true, in_same, ep, Option.bind_some]
        obtain ⟨j, rfl⟩ : ∃ j : Nat, i = (j : Int) := ⟨i.toNat, by omega⟩
        exact ev_bind (start_loop tr (j + 1) j (by omega) (by omega)) (ev_const _)
    · rw [decide_eq_false hi] at ep
      rw [if_neg (fun h => hi h.2)]
      constructor
      · refine ev_bind (spec_ok l hn hs) ?_
        rw [ho]
        simp only [if_true, ep, Option.bind_some, Bool.false_eq_true, if_false]
        exact ev_const _
      · refine ev_bind (impl_ok l hn hs) ?_
        rw [ho]
        simp only [if_true, in_same, ep, Option.bind_some, Bool.false_eq_true, if_false]
        exact ev_const _
theorem text_loop (d : Nat) : ∀ (n : Int) (s : ByteArray), 0 ≤ n → n.toNat < 10 ^ d → d ≤ 18 → s.size + d ≤ 100 → ∃ t, Ev (fun k => laws_markText.l0 k n s) t := by
  induction d with
  | zero =>
    intro n s h0 h1 hd hs
    have c : ¬ n > 0 := by simp at h1; omega
    have c2 : 1 + s.size ≤ 9223372036854775807 := by omega
    refine ⟨(⟨#[109]⟩ : ByteArray) ++ s, ev_step ?_⟩
    simp only [laws_markText.l0, if_neg c, if_pos c2]
    exact ev_const _
  | succ d ih =>
    intro n s h0 h1 hd hs
    by_cases c : n > 0
    · have hp : 10 ^ (d + 1) = 10 * 10 ^ d := by rw [Nat.pow_succ, Nat.mul_comm]
      have e1 : n.tdiv 10 = n / 10 := Int.tdiv_eq_ediv_of_nonneg h0
      have hm : 10 ^ d ≤ 10 ^ 18 := Nat.pow_le_pow_right (by omega) (by omega)
      have hm2 : 10 ^ 18 = 1000000000000000000 := by decide
      rw [hm2] at hm
      rw [hp] at h1
      have hb : (n / 10).toNat < 10 ^ d := by omega
      have e2 : wrap64 (n.tdiv 10) = n / 10 := by rw [e1]; unfold wrap64; omega
      have hz : ∀ x : Int, (strOfNums [x]).size = 1 := fun x => rfl
      have c2 : (1 : Nat) + s.size ≤ 9223372036854775807 := by omega
      obtain ⟨t, ht⟩ := ih (n / 10) (strOfNums [(wrap64 (48 + (Int.tmod n 10))) % 256] ++ s) (by omega) hb (by omega) (by rw [ByteArray.size_append, hz]; omega)
      refine ⟨t, ev_step ?_⟩
      simp only [laws_markText.l0, if_pos c, Option.bind_some, hz, if_pos c2, e2]
      exact ht
    · have c2 : 1 + s.size ≤ 9223372036854775807 := by omega
      refine ⟨(⟨#[109]⟩ : ByteArray) ++ s, ev_step ?_⟩
      simp only [laws_markText.l0, if_neg c, if_pos c2]
      exact ev_const _
theorem text_some (n : Int) (h : n < 1000000000000000000) : ∃ t, Ev (fun k => laws_markText.f k n) t := by
  unfold laws_markText.f
  by_cases c : n ≤ 0
  · simp only [if_pos c]
    exact ⟨_, ev_const _⟩
  · simp only [if_neg c]
    have hm2 : 10 ^ 18 = 1000000000000000000 := by decide
    exact text_loop 18 n _ (by omega) (by rw [hm2]; omega) (by omega) (by decide)
noncomputable def textM (n : Int) : ByteArray := if h : n < 1000000000000000000 then Classical.choose (text_some n h) else ⟨#[]⟩
theorem ev_text (n : Int) (h : n < 1000000000000000000) : Ev (fun k => laws_markText.f k n) (textM n) := by
  unfold textM
  rw [dif_pos h]
  exact Classical.choose_spec (text_some n h)
noncomputable def markN (c : Int) : S54 := ⟨c, c + 1, c + 2, c + 3, c + 4, textM (c + 5), textM (c + 6)⟩
noncomputable def marksN : Nat → Int → List S54
  | 0, _ => []
  | n + 1, c => markN c :: marksN n (c + 7)
theorem rdN_at (done : List S54) (r : S54) (rest : List S54) : rd_T54 (done ++ r :: rest) (done.length : Int) = r := by
  rw [rdN_get _ _ (by simp)]
  simp
theorem setN_at (done : List S54) (r v : S54) (rest : List S54) : (done ++ r :: rest).set done.length v = done ++ v :: rest := by
  rw [List.set_append_right _ _ (Nat.le_refl _), Nat.sub_self]
  rfl
theorem mark_nodes_loop : ∀ (rest done : List S54) (c : Int), 0 ≤ c → c + 7 * rest.length ≤ 1000000000 → done.length + rest.length ≤ 1048576 →
    Ev (fun k => laws_markNodeS.l0 k (done ++ rest) c (done.length : Int)) (c + 7 * rest.length, done ++ marksN rest.length c) := by
  intro rest
  induction rest with
  | nil =>
    intro done c h0 h1 h2
    apply ev_step
    have d : ¬ (done.length : Int) < ((done ++ ([] : List S54)).length : Int) := by simp
    simp only [laws_markNodeS.l0, if_neg d]
    exact ev_eq (ev_const _) (by simp [marksN])
  | cons r rest ih =>
    intro done c h0 h1 h2
    simp only [List.length_cons] at h1 h2
    apply ev_step
    have d : (done.length : Int) < ((done ++ r :: rest).length : Int) := by simp; omega
    have d0 : 0 ≤ (done.length : Int) := by omega
    have w : ∀ x : Int, 0 ≤ x → x ≤ 2000000000 → wrap64 x = x := fun x a b => by unfold wrap64; omega
    have w1 : wrap64 (c + 1) = c + 1 := w _ (by omega) (by omega)
    have w2 : wrap64 (c + 1 + 1) = c + 2 := by rw [w _ (by omega) (by omega)]; omega
    have w3 : wrap64 (c + 2 + 1) = c + 3 := by rw [w _ (by omega) (by omega)]; omega
    have w4 : wrap64 (c + 3 + 1) = c + 4 := by rw [w _ (by omega) (by omega)]; omega
    have w5 : wrap64 (c + 4 + 1) = c + 5 := by rw [w _ (by omega) (by omega)]; omega
    have w6 : wrap64 (c + 5 + 1) = c + 6 := by rw [w _ (by omega) (by omega)]; omega
    have w7 : wrap64 (c + 6 + 1) = c + 7 := by rw [w _ (by omega) (by omega)]; omega
    simp only [laws_markNodeS.l0, if_pos d, if_pos d0, Option.bind_some, Int.toNat_natCast, rdN_at, setN_at, w1, w2, w3, w4, w5, w6, w7, wrap_next done.length (by omega)]
    refine ev_bind (ev_text (c + 5) (by omega)) (ev_bind (ev_text (c + 6) (by omega)) ?_)
    have := ih (done ++ [markN c]) (c + 7) (by omega) (by omega) (by simp; omega)
    simp only [List.append_assoc, List.singleton_append, List.length_append, List.length_singleton] at this
    refine ev_eq this ?_
    rw [List.length_cons, marksN]
    congr 1
    omega
theorem mark_nodes (l : List S54) (h : l.length ≤ 1048576) : Ev (fun k => laws_markNodeS.f k l 1) (1 + 7 * (l.length : Int), marksN l.length 1) := mark_nodes_loop l [] 1 (by omega) (by omega) (by simpa using h)
theorem held_nodes_loop : ∀ (n : Nat) (done : List S54) (c : Int), 0 ≤ c → c + 7 * n ≤ 1000000000 → done.length + n ≤ 1048576 →
    Ev (fun k => laws_heldNodeS.l0 k (done ++ marksN n c) c (done.length : Int)) (c + 7 * n) := by
  intro n
  induction n with
  | zero =>
    intro done c h0 h1 h2
    apply ev_step
    have d : ¬ (done.length : Int) < ((done ++ marksN 0 c).length : Int) := by simp [marksN]
    simp only [laws_heldNodeS.l0, if_neg d]
    exact ev_eq (ev_const _) (by omega)
  | succ n ih =>
    intro done c h0 h1 h2
    apply ev_step
    rw [marksN]
    have d : (done.length : Int) < ((done ++ markN c :: marksN n (c + 7)).length : Int) := by simp; omega
    have d0 : 0 ≤ (done.length : Int) := by omega
    have w : ∀ x : Int, 0 ≤ x → x ≤ 2000000000 → wrap64 x = x := fun x a b => by unfold wrap64; omega
    have w1 : wrap64 (c + 1) = c + 1 := w _ (by omega) (by omega)
    have w2 : wrap64 (c + 1 + 1) = c + 2 := by rw [w _ (by omega) (by omega)]; omega
    have w3 : wrap64 (c + 2 + 1) = c + 3 := by rw [w _ (by omega) (by omega)]; omega
    have w4 : wrap64 (c + 3 + 1) = c + 4 := by rw [w _ (by omega) (by omega)]; omega
    have w5 : wrap64 (c + 4 + 1) = c + 5 := by rw [w _ (by omega) (by omega)]; omega
    have w6 : wrap64 (c + 5 + 1) = c + 6 := by rw [w _ (by omega) (by omega)]; omega
    have w7 : wrap64 (c + 6 + 1) = c + 7 := by rw [w _ (by omega) (by omega)]; omega
    have f0 : (markN c).f0 = c := rfl
    have f1 : (markN c).f1 = c + 1 := rfl
    have f2 : (markN c).f2 = c + 2 := rfl
    have f3 : (markN c).f3 = c + 3 := rfl
    have f4 : (markN c).f4 = c + 4 := rfl
    have f5 : (markN c).f5 = textM (c + 5) := rfl
    have f6 : (markN c).f6 = textM (c + 6) := rfl
    simp only [laws_heldNodeS.l0, if_pos d, if_pos d0, rdN_at, w1, w2, w3, w4, w5, w6, w7, wrap_next done.length (by omega), f0, f1, f2, f3, f4, f5, f6, if_true]
    refine ev_bind (ev_text (c + 5) (by omega)) ?_
    simp only [if_true]
    refine ev_bind (ev_text (c + 6) (by omega)) ?_
    simp only [if_true]
    have := ih (done ++ [markN c]) (c + 7) (by omega) (by omega) (by simp; omega)
    simp only [List.append_assoc, List.singleton_append, List.length_append, List.length_singleton] at this
    exact ev_eq this (by omega)
theorem held_nodes (n : Nat) (h : n ≤ 1048576) : Ev (fun k => laws_heldNodeS.f k (marksN n 1) 1) (1 + 7 * (n : Int)) := held_nodes_loop n [] 1 (by omega) (by omega) (by simpa using h)
def moveM (t : Int) (n : S54) : S54 := ⟨n.f0, if 0 < ar n.f0 then n.f1 - t else n.f1, if 1 < ar n.f0 then n.f2 - t else n.f2, if 2 < ar n.f0 then n.f3 - t else n.f3, n.f4, n.f5, n.f6⟩
def near (n : S54) : Prop := (0 < ar n.f0 → 0 ≤ n.f1 ∧ n.f1 < 150) ∧ (1 < ar n.f0 → 0 ≤ n.f2 ∧ n.f2 < 150) ∧ (2 < ar n.f0 → 0 ≤ n.f3 ∧ n.f3 < 150)
theorem Tree.near {l : List S54} {st : List Int} (h : Tree l st) (hn : l.length ≤ 150) : ∀ n ∈ l, near n := by
  intro n hx
  obtain ⟨i, hi, rfl⟩ := List.getElem_of_mem hx
  have hk := h.kid i hi
  have ha := ar_most l[i].f0
  unfold kidsM at hk
  refine ⟨fun h0 => ?_, fun h0 => ?_, fun h0 => ?_⟩
  · have := hk l[i].f1 (List.mem_take_iff_getElem.2 ⟨0, by simp; omega, rfl⟩)
    omega
  · have := hk l[i].f2 (List.mem_take_iff_getElem.2 ⟨1, by simp; omega, rfl⟩)
    omega
  · have := hk l[i].f3 (List.mem_take_iff_getElem.2 ⟨2, by simp; omega, rfl⟩)
    omega
theorem spec_shift_loop (P : List S54) (hP : P.length ≤ 150) (t : Int) (ht : 0 ≤ t ∧ t ≤ 150) (hk : ∀ n ∈ P, near n) (m : Nat) : ∀ (i : Nat) (out : List S54), i + m = P.length → out.length ≤ i →
    Ev (fun k => spec_l3Shift.l0 k P (-t) out i) (out ++ (P.drop i).map (moveM t)) := by
  induction m with
  | zero =>
    intro i out hi hl
    have d : ¬ (i : Int) < (P.length : Int) := by omega
    rw [List.drop_of_length_le (by omega)]
    apply ev_step
    simp only [spec_l3Shift.l0, if_neg d]
    exact ev_eq (ev_const _) (by simp)
  | succ m ih =>
    intro i out hi hl
    have d : (i : Int) < (P.length : Int) := by omega
    have d0 : 0 ≤ (i : Int) := by omega
    have hi' : i < P.length := by omega
    have s1 : out.length < 1954687338268 := by omega
    rw [List.drop_eq_getElem_cons hi', List.map_cons]
    have next : ∀ v : S54, moveM t P[i] = v → Ev (fun k => spec_l3Shift.l0 k P (-t) (out ++ [v]) ((i + 1 : Nat) : Int)) (out ++ (moveM t P[i] :: (P.drop (i + 1)).map (moveM t))) := by
      intro v hv
      have := ih (i + 1) (out ++ [v]) (by omega) (by simp; omega)
      rw [List.append_assoc] at this
      rw [hv]
      exact this
    obtain ⟨k1, k2, k3⟩ := hk P[i] (List.getElem_mem hi')
    have w : ∀ x : Int, 0 ≤ x → x < 150 → wrap64 (x + -t) = x - t := fun x a b => by unfold wrap64; omega
    have ha := ar_most P[i].f0
    apply ev_step
    simp only [spec_l3Shift.l0, if_pos d, if_pos d0, rdN_get P i hi']
    refine ev_bind (spec_ar _) ?_
    have hm : ar P[i].f0 = 0 ∨ ar P[i].f0 = 1 ∨ ar P[i].f0 = 2 ∨ ar P[i].f0 = 3 := by omega
    rcases hm with q | q | q | q
    · have c0 : ¬ (ar P[i].f0 : Int) > 0 := by omega
      have c1 : ¬ (ar P[i].f0 : Int) > 1 := by omega
      have c2 : ¬ (ar P[i].f0 : Int) > 2 := by omega
      simp only [if_neg c0]
      apply ev_step
      simp only [spec_l3Shift.j1, if_neg c1, if_neg c2, if_pos s1, wrap_next i (by omega)]
      exact next _ (by unfold moveM; rw [if_neg (by omega), if_neg (by omega), if_neg (by omega)])
    · have c0 : (ar P[i].f0 : Int) > 0 := by omega
      have c1 : ¬ (ar P[i].f0 : Int) > 1 := by omega
      have c2 : ¬ (ar P[i].f0 : Int) > 2 := by omega
      have g1 := k1 (by omega)
      simp only [if_pos c0]
      apply ev_step
      simp only [spec_l3Shift.j1, if_neg c1, if_neg c2, if_pos s1, wrap_next i (by omega), w _ g1.1 g1.2]
      exact next _ (by unfold moveM; rw [if_pos (by omega), if_neg (by omega), if_neg (by omega)])
    · have c0 : (ar P[i].f0 : Int) > 0 := by omega
      have c1 : (ar P[i].f0 : Int) > 1 := by omega
      have c2 : ¬ (ar P[i].f0 : Int) > 2 := by omega
      have g1 := k1 (by omega)
      have g2 := k2 (by omega)
      simp only [if_pos c0]
      apply ev_step
      simp only [spec_l3Shift.j1, if_pos c1, if_neg c2, if_pos s1, wrap_next i (by omega), w _ g1.1 g1.2, w _ g2.1 g2.2]
      exact next _ (by unfold moveM; rw [if_pos (by omega), if_pos (by omega), if_neg (by omega)])
    · have c0 : (ar P[i].f0 : Int) > 0 := by omega
      have c1 : (ar P[i].f0 : Int) > 1 := by omega
      have c2 : (ar P[i].f0 : Int) > 2 := by omega
      have g1 := k1 (by omega)
      have g2 := k2 (by omega)
      have g3 := k3 (by omega)
      simp only [if_pos c0]
      apply ev_step
      simp only [spec_l3Shift.j1, if_pos c1, if_pos c2, if_pos s1, wrap_next i (by omega), w _ g1.1 g1.2, w _ g2.1 g2.2, w _ g3.1 g3.2]
      exact next _ (by unfold moveM; rw [if_pos (by omega), if_pos (by omega), if_pos (by omega)])
theorem impl_moved (n : S54) (hk : near n) (t : Int) (ht : 0 ≤ t ∧ t ≤ 150) : Ev (fun k => impl_moved.f k n.f0 n.f1 n.f2 n.f3 n.f4 n.f5 n.f6 t) ((moveM t n).f0, (moveM t n).f1, (moveM t n).f2, (moveM t n).f3, (moveM t n).f4, (moveM t n).f5, (moveM t n).f6) := by
  obtain ⟨k1, k2, k3⟩ := hk
  have w : ∀ x : Int, 0 ≤ x → x < 150 → wrap64 (x - t) = x - t := fun x a b => by unfold wrap64; omega
  have ha := ar_most n.f0
  unfold impl_moved.f
  refine ev_bind (impl_ar _) ?_
  have hm : ar n.f0 = 0 ∨ ar n.f0 = 1 ∨ ar n.f0 = 2 ∨ ar n.f0 = 3 := by omega
  rcases hm with q | q | q | q
  · have c1 : ¬ (ar n.f0 : Int) = 1 := by omega
    have c2 : ¬ (ar n.f0 : Int) = 2 := by omega
    have c3 : ¬ (ar n.f0 : Int) = 3 := by omega
    simp only [if_neg c1, if_neg c2, if_neg c3]
    refine ev_eq (ev_const _) ?_
    unfold moveM
    simp only
    rw [if_neg (by omega), if_neg (by omega), if_neg (by omega)]
  · have c1 : (ar n.f0 : Int) = 1 := by omega
    have c2 : ¬ (ar n.f0 : Int) = 2 := by omega
    have c3 : ¬ (ar n.f0 : Int) = 3 := by omega
    have g1 := k1 (by omega)
    simp only [if_pos c1, if_neg c2, if_neg c3, w _ g1.1 g1.2]
    refine ev_eq (ev_const _) ?_
    unfold moveM
    simp only
    rw [if_pos (by omega), if_neg (by omega), if_neg (by omega)]
  · have c2 : (ar n.f0 : Int) = 2 := by omega
    have c3 : ¬ (ar n.f0 : Int) = 3 := by omega
    have g1 := k1 (by omega)
    have g2 := k2 (by omega)
    simp only [if_pos c2, if_neg c3, w _ g1.1 g1.2, w _ g2.1 g2.2]
    refine ev_eq (ev_const _) ?_
    unfold moveM
    simp only
    rw [if_pos (by omega), if_pos (by omega), if_neg (by omega)]
  · have c3 : (ar n.f0 : Int) = 3 := by omega
    have g1 := k1 (by omega)
    have g2 := k2 (by omega)
    have g3 := k3 (by omega)
    simp only [if_pos c3, w _ g1.1 g1.2, w _ g2.1 g2.2, w _ g3.1 g3.2]
    refine ev_eq (ev_const _) ?_
    unfold moveM
    simp only
    rw [if_pos (by omega), if_pos (by omega), if_pos (by omega)]
theorem impl_part_loop (P : List S54) (hP : P.length ≤ 150) (t : Int) (ht : 0 ≤ t ∧ t ≤ 150) (hk : ∀ n ∈ P, near n) (m : Nat) : ∀ (i : Nat) (out : List S54), i + m = P.length → out.length ≤ i →
    Ev (fun k => impl_Part.l0 k t out P (P.length : Int) i) (out ++ (P.drop i).map (moveM t)) := by
  induction m with
  | zero =>
    intro i out hi hl
    have d : ¬ (i : Int) < (P.length : Int) := by omega
    rw [List.drop_of_length_le (by omega)]
    apply ev_step
    simp only [impl_Part.l0, if_neg d]
    exact ev_eq (ev_const _) (by simp)
  | succ m ih =>
    intro i out hi hl
    have d : (i : Int) < (P.length : Int) := by omega
    have d0 : 0 ≤ (i : Int) := by omega
    have hi' : i < P.length := by omega
    have s1 : out.length < 1954687338268 := by omega
    rw [List.drop_eq_getElem_cons hi', List.map_cons]
    apply ev_step
    simp only [impl_Part.l0, if_pos d, if_pos d0, rdN_get P i hi', wrap_next i (by omega)]
    refine ev_bind (impl_moved P[i] (hk P[i] (List.getElem_mem hi')) t ht) ?_
    simp only [if_pos s1]
    have := ih (i + 1) (out ++ [moveM t P[i]]) (by omega) (by simp; omega)
    rw [List.append_assoc] at this
    exact this
def partM (l : List S54) (i : Int) : List S54 := if startM l i < 0 then [] else ((l.take (i + 1).toNat).drop (startM l i).toNat).map (moveM (startM l i))
theorem start_in {l : List S54} {i : Int} (h : ¬ startM l i < 0) : okM l = true ∧ 0 ≤ i ∧ i < l.length ∧ 0 ≤ startM l i ∧ startM l i ≤ i := by
  unfold startM at h ⊢
  by_cases c : okM l = true ∧ 0 ≤ i ∧ i < l.length
  · rw [if_pos c] at h ⊢
    obtain ⟨n1, n2, st, e1, tr, e2⟩ := ok_tree c.1
    rw [e1] at h ⊢
    obtain ⟨j, rfl⟩ : ∃ j : Nat, i = (j : Int) := ⟨i.toNat, by omega⟩
    simp only at h ⊢
    have hl := tr.len
    rw [rd_get st j (by omega)]
    have := tr.low j (by omega)
    exact ⟨c.1, c.2.1, c.2.2, this.1, this.2⟩
  · rw [if_neg c] at h
    exact absurd (by decide) h
theorem part_both (l : List S54) (i : Int) (hn : l.length ≤ 1048576) (hs : ∀ x ∈ l, small x) : Ev (fun k => spec_Part.f k l i) (partM l i) ∧ Ev (fun k => impl_Part.f k l i) (partM l i) ∧ (partM l i).length ≤ 150 := by
  obtain ⟨g1, g2⟩ := start_both l i hn hs
  by_cases h : startM l i < 0
  · unfold partM
    rw [if_pos h]
    refine ⟨?_, ?_, by simp⟩
    · unfold spec_Part.f
      refine ev_bind g1 ?_
      simp only [if_pos h]
      exact ev_const _
    · unfold impl_Part.f
      refine ev_bind g2 ?_
      simp only [if_pos h]
      exact ev_const _
  · obtain ⟨ho, i0, i1, s0, s1⟩ := start_in h
    obtain ⟨n1, n2, st, e1, tr, e2⟩ := ok_tree ho
    have hnear := tr.near n2
    unfold partM
    rw [if_neg h]
    generalize startM l i = t at g1 g2 h s0 s1 ⊢
    have e : wrap64 (i + 1) = i + 1 := by unfold wrap64; omega
    have et : wrap64 (-t) = -t := by unfold wrap64; omega
    have c1 : t ≤ i + 1 := by omega
    have c2 : i + 1 ≤ (l.length : Int) := by omega
    have hP : ((l.take (i + 1).toNat).drop t.toNat).length ≤ 150 := by rw [List.length_drop, List.length_take]; omega
    have hk : ∀ n ∈ (l.take (i + 1).toNat).drop t.toNat, near n := fun n hx => hnear n (List.mem_of_mem_take (List.mem_of_mem_drop hx))
    refine ⟨?_, ?_, by rw [List.length_map]; exact hP⟩
    · unfold spec_Part.f
      refine ev_bind g1 ?_
      simp only [if_neg h, if_pos s0, e, et, if_pos c1, if_pos c2]
      refine ev_bind ?_ (ev_const _)
      have := spec_shift_loop ((l.take (i + 1).toNat).drop t.toNat) hP t (by omega) hk ((l.take (i + 1).toNat).drop t.toNat).length 0 [] (by omega) (by simp)
      rw [List.drop_zero, List.nil_append] at this
      exact this
    · unfold impl_Part.f
      refine ev_bind g2 ?_
      simp only [if_neg h, if_pos s0, e, if_pos c1, if_pos c2, Option.bind_some]
      have := impl_part_loop ((l.take (i + 1).toNat).drop t.toNat) hP t (by omega) hk ((l.take (i + 1).toNat).drop t.toNat).length 0 [] (by omega) (by simp)
      rw [List.drop_zero, List.nil_append] at this
      exact this
theorem FnExactPart : Pure := by
  intro a i ⟨ha, ga⟩ _
  refine Ev.rounds ?_
  unfold laws_FnExactPart.f
  obtain ⟨r, h1, h2, h3⟩ := sz_nodes a ha (fun x hx => (ga x hx).2.2.2.2.2) 1048576 (by omega) (by omega) 1048577 (by omega)
  refine ev_bind (Ev.of (fun k => laws_szNodeS.mono _ _ k) h1) ?_
  by_cases c : r < 0
  · simp only [if_pos c]
    exact ev_const _
  · simp only [if_neg c]
    obtain ⟨la, lb⟩ := h3 (by omega)
    have ln : (a.map nodeOf).length ≤ 1048576 := by simpa using la
    obtain ⟨g1, g2, hb⟩ := part_both (a.map nodeOf) i ln (node_small lb)
    have eqp := ev_same (partM (a.map nodeOf) i) (by omega)
    refine ev_bind (ev_nodes a la) (ev_bind g1 (ev_bind (ev_nodes a la) (ev_bind g2 (ev_bind eqp ?_))))
    simp only [if_true]
    refine ev_bind (ev_nodes a la) (ev_bind (ev_same _ ln) ?_)
    simp only [if_true]
    refine ev_bind (mark_nodes _ ln) ?_
    have cm : ¬ 1 + 7 * ((a.map nodeOf).length : Int) < 0 := by omega
    simp only [if_neg cm]
    refine ev_bind eqp ?_
    apply ev_step
    simp only [laws_FnExactPart.j0, Bool.not_true, Bool.false_eq_true, if_false]
    have held := held_nodes (partM (a.map nodeOf) i).length (by omega)
    have cb : ¬ 1 + 7 * ((partM (a.map nodeOf) i).length : Int) < 0 := by omega
    refine ev_bind (mark_nodes _ (by omega)) (ev_bind held ?_)
    simp only [if_neg cb, if_true]
    refine ev_bind (ev_nodes a la) (ev_bind g2 (ev_bind eqp ?_))
    simp only [if_true]
    refine ev_bind held ?_
    simp only [if_neg cb, if_true]
    exact ev_const _
end Go.Proofs.YthmkeimngfboiaaDoor.Pure

