/- SameNodes: the two loops ask the same of each place; what came in stays as it was. -/
import Derived.Test.YtimcbgonfjdgfaaSayFnExactSameNodes
import Derived.Laws.Strings
import Derived.Laws.BitsLemmas
set_option linter.unusedVariables false
set_option linter.unusedSimpArgs false
namespace Go.Proofs.Ytimcbgonfjdgfaa.Pure
open Go.RowKit Go.Proofs.Ytimcbgonfjdgfaa.PFnExactSameNodes Go.Proofs.YtimcbgonfjdgfaaW.PrintWords Go.Proofs.YtimcbgonfjdgfaaW.PrintLast Go.Proofs.Ytimcbgonfjdgfaa.SayFnExactSameNodes

/-- SameNodes: the two loops ask the same of each place; what came in stays as it was. -/
theorem wrap_next (i : Nat) (h : i < 4611686018427387904) : wrap64 ((i : Int) + 1) = ((i + 1 : Nat) : Int) := by unfold wrap64; omega
theorem set_grown {α : Type} {x m : List α} {i : Nat} (hl : x.length = m.length) (h : ∀ j, j < i → x[j]? = m[j]?) (hi : i < m.length) {v : α} (hv : m[i]? = some v) : (x.set i v).length = m.length ∧ ∀ j, j < i + 1 → (x.set i v)[j]? = m[j]? := by
  refine ⟨by rw [List.length_set, hl], fun j hj => ?_⟩
  by_cases e : j = i
  · subst e
    rw [List.getElem?_set_self (by omega), hv]
  · rw [List.getElem?_set_ne (by omega)]
    exact h j (by omega)
theorem all_grown {α : Type} {x m : List α} (hl : x.length = m.length) (h : ∀ j, j < m.length → x[j]? = m[j]?) : x = m := by
  apply List.ext_getElem? ; intro j
  by_cases hj : j < m.length
  · exact h j hj
  · rw [List.getElem?_eq_none (by omega), List.getElem?_eq_none (by omega)]

theorem rdL_get (xs : List S38) (i : Nat) (h : i < xs.length) : rd_T38 xs (i : Int) = xs[i] := by
  unfold rd_T38
  simp [List.getD_eq_getElem?_getD, List.getElem?_eq_getElem h]
theorem rdN_get (xs : List S42) (i : Nat) (h : i < xs.length) : rd_T42 xs (i : Int) = xs[i] := by
  unfold rd_T42
  simp [List.getD_eq_getElem?_getD, List.getElem?_eq_getElem h]
def nodeOf (x : S38) : S42 := ⟨x.f0, x.f1, x.f2, x.f3, x.f4, x.f5, x.f6⟩
/-- szNodeS: it answers, and where it is not negative there are no more nodes than were left. -/
theorem sz_loop (l : List S38) (hg : ∀ x ∈ l, x.f5.size ≤ 9223372036854775807 ∧ x.f6.size ≤ 9223372036854775807) (hn : l.length ≤ 1048576) (d : Nat) : ∀ k (i : Nat) (left : Int), i + d = l.length → 0 ≤ left → left ≤ 1048576 → d < k →
    ∃ r, laws_szNodeS.l0 k l left i = some r ∧ r ≤ left ∧ (0 ≤ r → ∀ (j : Nat) (hj : j < l.length), i ≤ j → l[j].f5.size ≤ 1048576 ∧ l[j].f6.size ≤ 1048576) := by
  induction d with
  | zero =>
    intro k i left hd h0 h1 hk
    obtain ⟨k, rfl⟩ : ∃ m, k = m + 1 := ⟨k - 1, by omega⟩
    have c : ¬ (i : Int) < (l.length : Int) := by omega
    simp only [laws_szNodeS.l0, if_neg c]
    exact ⟨left, rfl, by omega, fun _ j hj hij => by omega⟩
  | succ d ih =>
    intro k i left hd h0 h1 hk
    obtain ⟨k, rfl⟩ : ∃ m, k = m + 1 := ⟨k - 1, by omega⟩
    have c : (i : Int) < (l.length : Int) := by omega
    have hi : i < l.length := by omega
    have c0 : 0 ≤ (i : Int) := Int.natCast_nonneg i
    have hgi := hg l[i] (List.getElem_mem hi)
    simp only [laws_szNodeS.l0, if_pos c, if_pos c0, rdL_get l i hi, wrap_next i (by omega), laws_szNode.f]
    have e1 : wrap64 (left - (l[i].f5.size : Int)) = left - (l[i].f5.size : Int) := by unfold wrap64; omega
    rw [e1]
    by_cases a1 : left - (l[i].f5.size : Int) < 0
    · simp only [if_pos a1, Option.bind_some]
      exact ⟨-1, by simp, by omega, fun h => by omega⟩
    · have e2 : wrap64 (left - (l[i].f5.size : Int) - (l[i].f6.size : Int)) = left - (l[i].f5.size : Int) - (l[i].f6.size : Int) := by unfold wrap64; omega
      simp only [if_neg a1, e2]
      by_cases a2 : left - (l[i].f5.size : Int) - (l[i].f6.size : Int) < 0
      · simp only [if_pos a2, Option.bind_some]
        exact ⟨-1, by simp, by omega, fun h => by omega⟩
      · simp only [if_neg a2, Option.bind_some]
        obtain ⟨r, h2, h3, h4⟩ := ih k (i + 1) (left - (l[i].f5.size : Int) - (l[i].f6.size : Int)) (by omega) (by omega) (by omega) (by omega)
        refine ⟨r, h2, by omega, fun h j hj hij => ?_⟩
        by_cases e : i = j
        · subst e
          omega
        · exact h4 h j hj (by omega)
theorem sz_nodes (l : List S38) (hl : l.length ≤ 9223372036854775807) (hg : ∀ x ∈ l, x.f5.size ≤ 9223372036854775807 ∧ x.f6.size ≤ 9223372036854775807) (left : Int) (h0 : 0 ≤ left) (h1 : left ≤ 1048576) (k : Nat) (hk : 1048576 < k) :
    ∃ r, laws_szNodeS.f k l left = some r ∧ r ≤ left ∧ (0 ≤ r → l.length ≤ 1048576 ∧ ∀ x ∈ l, x.f5.size ≤ 1048576 ∧ x.f6.size ≤ 1048576) := by
  unfold laws_szNodeS.f
  have e : wrap64 (left - (l.length : Int)) = left - (l.length : Int) := by unfold wrap64; omega
  rw [e]
  by_cases h : left - (l.length : Int) < 0
  · rw [if_pos h]
    exact ⟨-1, rfl, by omega, fun h => by omega⟩
  · rw [if_neg h]
    obtain ⟨r, h2, h3, h4⟩ := sz_loop l hg (by omega) l.length k 0 (left - (l.length : Int)) (by omega) (by omega) (by omega) (by omega)
    refine ⟨r, h2, by omega, fun h => ⟨by omega, fun x hx => ?_⟩⟩
    obtain ⟨j, hj, rfl⟩ := List.getElem_of_mem hx
    exact h4 h j hj (by omega)
theorem to_loop (l : List S38) (hn : l.length ≤ 1048576) (d : Nat) : ∀ k (i : Nat) (x : List S42), i + d = l.length → x.length = (l.map nodeOf).length → (∀ j, j < i → x[j]? = (l.map nodeOf)[j]?) → d < k →
    laws_toNodeS.l0 k l x i = some (l.map nodeOf) := by
  induction d with
  | zero =>
    intro k i x hd hx hp hk
    obtain ⟨k, rfl⟩ : ∃ m, k = m + 1 := ⟨k - 1, by omega⟩
    have c : ¬ (i : Int) < (l.length : Int) := by omega
    simp only [laws_toNodeS.l0, if_neg c]
    rw [all_grown hx (fun j hj => hp j (by simp at hj; omega))]
  | succ d ih =>
    intro k i x hd hx hp hk
    obtain ⟨k, rfl⟩ : ∃ m, k = m + 1 := ⟨k - 1, by omega⟩
    have hxl : x.length = l.length := by simpa using hx
    have c : (i : Int) < (l.length : Int) := by omega
    have c2 : (i : Int) < (x.length : Int) := by omega
    have hi : i < l.length := by omega
    have c0 : 0 ≤ (i : Int) := Int.natCast_nonneg i
    simp only [laws_toNodeS.l0, laws_toNode.f, Option.bind_some, if_pos c, if_pos c0, if_pos c2, rdL_get l i hi, wrap_next i (by omega), Int.toNat_natCast]
    obtain ⟨h1, h2⟩ := set_grown (v := nodeOf l[i]) hx hp (by simpa using hi) (by simp [List.getElem?_eq_getElem hi])
    exact ih k (i + 1) _ (by omega) h1 h2 (by omega)
theorem to_nodes (l : List S38) (hn : l.length ≤ 1048576) (k : Nat) (hk : 1048576 < k) : laws_toNodeS.f k l = some (l.map nodeOf) := by
  unfold laws_toNodeS.f
  have c1 : 0 ≤ (l.length : Int) := Int.natCast_nonneg _
  have c2 : ((l.length : Int)).toNat ≤ 3909374676536 := by omega
  rw [if_pos c1, if_pos c2]
  exact to_loop l hn l.length k 0 _ (by omega) (by simp) (fun j hj => by omega) (by omega)
theorem eq_loop (l : List S42) (hn : l.length ≤ 1048576) (d : Nat) : ∀ k (i : Nat), i + d = l.length → d < k → laws_eqNodeS.l0 k l l i = some true := by
  induction d with
  | zero =>
    intro k i hd hk
    obtain ⟨k, rfl⟩ : ∃ m, k = m + 1 := ⟨k - 1, by omega⟩
    have c : ¬ (i : Int) < (l.length : Int) := by omega
    simp only [laws_eqNodeS.l0, if_neg c]
  | succ d ih =>
    intro k i hd hk
    obtain ⟨k, rfl⟩ : ∃ m, k = m + 1 := ⟨k - 1, by omega⟩
    have c : (i : Int) < (l.length : Int) := by omega
    have c0 : 0 ≤ (i : Int) := Int.natCast_nonneg i
    simp only [laws_eqNodeS.l0, laws_eqNode.f, if_true, Option.bind_some, if_pos c, if_pos c0, wrap_next i (by omega)]
    exact ih k (i + 1) (by omega) (by omega)
theorem eq_nodes (l : List S42) (hn : l.length ≤ 1048576) (k : Nat) (hk : 1048576 < k) : laws_eqNodeS.f k l l = some true := by
  unfold laws_eqNodeS.f
  rw [if_pos rfl]
  exact eq_loop l hn l.length k 0 (by omega) (by omega)

theorem same_loops (a b : List S42) (hab : a.length = b.length) (hn : a.length ≤ 1048576) (d : Nat) : ∀ k (i : Nat), i + d = a.length → d < k → ∃ r, spec_SameNodes.l0 k a b i = some r ∧ impl_SameNodes.l0 k a b (a.length : Int) i = some r := by
  induction d with
  | zero =>
    intro k i hd hk
    obtain ⟨k, rfl⟩ : ∃ m, k = m + 1 := ⟨k - 1, by omega⟩
    have c : ¬ (i : Int) < (a.length : Int) := by omega
    simp only [spec_SameNodes.l0, impl_SameNodes.l0, if_neg c]
    exact ⟨true, rfl, rfl⟩
  | succ d ih =>
    intro k i hd hk
    obtain ⟨k, rfl⟩ : ∃ m, k = m + 1 := ⟨k - 1, by omega⟩
    have c : (i : Int) < (a.length : Int) := by omega
    have c2 : (i : Int) < (b.length : Int) := by omega
    have c0 : 0 ≤ (i : Int) := Int.natCast_nonneg i
    simp only [spec_SameNodes.l0, impl_SameNodes.l0, if_pos c, if_pos c2, if_pos c0, wrap_next i (by omega)]
    obtain ⟨r, h1, h2⟩ := ih k (i + 1) (by omega) (by omega)
    rw [h1, h2]
    split
    · exact ⟨false, rfl, rfl⟩
    · exact ⟨r, rfl, rfl⟩
theorem same_both (a b : List S42) (hn : a.length ≤ 1048576) (k : Nat) (hk : 1048576 < k) : ∃ r, spec_SameNodes.f k a b = some r ∧ impl_SameNodes.f k a b = some r := by
  unfold spec_SameNodes.f impl_SameNodes.f
  by_cases h : (a.length : Int) = (b.length : Int)
  · simp only [if_pos h]
    exact same_loops a b (by omega) hn a.length k 0 (by omega) (by omega)
  · simp only [if_neg h]
    exact ⟨false, rfl, rfl⟩
theorem FnExactSameNodes : Pure := by
  intro a b ⟨ha, ga⟩ ⟨hb, gb⟩
  refine ⟨1048577, ?_⟩
  unfold laws_FnExactSameNodes.f
  obtain ⟨r, h1, h2, h3⟩ := sz_nodes a ha (fun x hx => (ga x hx).2.2.2.2.2) 1048576 (by omega) (by omega) 1048577 (by omega)
  rw [h1]; simp only [Option.bind_some]
  by_cases c : r < 0
  · rw [if_pos c]
  · rw [if_neg c]
    obtain ⟨r2, h4, h5, h6⟩ := sz_nodes b hb (fun x hx => (gb x hx).2.2.2.2.2) r (by omega) (by omega) 1048577 (by omega)
    rw [h4]; simp only [Option.bind_some]
    by_cases c2 : r2 < 0
    · rw [if_pos c2]
    · rw [if_neg c2]
      have la := (h3 (by omega)).1
      have lb := (h6 (by omega)).1
      obtain ⟨q, h7, h8⟩ := same_both (a.map nodeOf) (b.map nodeOf) (by simpa using la) 1048577 (by omega)
      simp only [to_nodes a la 1048577 (by omega), to_nodes b lb 1048577 (by omega), Option.bind_some, h7, h8, eq_nodes (a.map nodeOf) (by simpa using la) 1048577 (by omega), eq_nodes (b.map nodeOf) (by simpa using lb) 1048577 (by omega), bne_self_eq_false, Bool.false_eq_true, if_false, if_true]

end Go.Proofs.Ytimcbgonfjdgfaa.Pure
