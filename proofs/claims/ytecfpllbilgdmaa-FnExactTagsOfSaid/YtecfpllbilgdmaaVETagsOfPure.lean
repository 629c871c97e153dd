/- PureFnExactTagsOf, of the words and walks that the law FnExactTagsOf needs; made by this session's program out of printed texts. -/

import Derived.Test.YtecfpllbilgdmaaVETagsOfSay
import Derived.Laws.Strings
import Derived.Laws.BitsLemmas
set_option linter.unusedVariables false
set_option linter.unusedSimpArgs false
namespace Go.Proofs.Ytecfpllbilgdmaa.Pure
open Go.RowKit Go.Proofs.Ytecfpllbilgdmaa.PFnExactTagsOf Go.Proofs.YtecfpllbilgdmaaW.PrintWords Go.Proofs.YtecfpllbilgdmaaW.PrintLast Go.Proofs.Ytecfpllbilgdmaa.SayFnExactTagsOf
theorem wrap_next (i : Nat) (h : i < 4611686018427387904) : wrap64 ((i : Int) + 1) = ((i + 1 : Nat) : Int) := by unfold wrap64; omega
theorem set_grown {α : Type} {x m : List α} {i : Nat} (hl : x.length = m.length) (h : ∀ j, j < i → x[j]? = m[j]?) (hi : i < m.length) {v : α} (hv : m[i]? = some v) : (x.set i v).length = m.length ∧ ∀ j, j < i + 1 → (x.set i v)[j]? = m[j]? := by
  refine ⟨by rw [List.length_set, hl], fun j hj => ?_⟩
  by_cases e : j = i
  · subst e
    rw [List.getElem?_set_self (by omega), hv]
  · rw [List.getElem?_set_ne (by omega)]
    exact h j (by omega)
theorem all_grown {α : Type} {x m : List α} (hl : x.length = m.length) (h : ∀ j, j < m.length → x[j]? = m[j]?) : x = m := by
  apply List.ext_getElem? ; intro j
  by_cases hj : j < m.length
  · exact h j hj
  · rw [List.getElem?_eq_none (by omega), List.getElem?_eq_none (by omega)]
theorem ev_step {α : Type} {g : Nat → Option α} {r : α} (h : Ev (fun k => g (k + 1)) r) : Ev g r := Ev.step (fun _ => rfl) h
theorem ev_bind {α β : Type} {g : Nat → Option α} {f : Nat → α → Option β} {a : α} {r : β} (h : Ev g a) (k : Ev (fun n => f n a) r) : Ev (fun n => (g n).bind (f n)) r := Ev.bind h k
theorem ev_const {α : Type} (r : α) : Ev (fun _ => some r) r := Ev.now r
theorem ev_at {α : Type} {g : Nat → Option α} {r : α} (n : Nat) (h : ∀ k, n ≤ k → g k = some r) : Ev g r := ⟨n, h⟩
theorem ev_eq {α : Type} {g : Nat → Option α} {r q : α} (h : Ev g r) (e : r = q) : Ev g q := e ▸ h
theorem rdI_at (done : List Int) (r : Int) (rest : List Int) : rd (done ++ r :: rest) (done.length : Int) = r := by
  unfold rd
  simp
def marksI : Nat → Int → List Int
  | 0, _ => []
  | n + 1, c => c :: marksI n (c + 1)
theorem mark_ints_loop : ∀ (rest done : List Int) (c : Int), 0 ≤ c → c + rest.length ≤ 1000000000 → done.length + rest.length ≤ 1048576 →
    Ev (fun k => laws_markIntS.l0 k (done ++ rest) c (done.length : Int)) (c + rest.length, done ++ marksI rest.length c) := by
  intro rest
  induction rest with
  | nil =>
    intro done c h0 h1 h2
    apply ev_step
    have d : ¬ (done.length : Int) < ((done ++ ([] : List Int)).length : Int) := by simp
    simp only [laws_markIntS.l0, if_neg d]
    exact ev_eq (ev_const _) (by simp [marksI])
  | cons r rest ih =>
    intro done c h0 h1 h2
    simp only [List.length_cons] at h1 h2
    apply ev_step
    have d : (done.length : Int) < ((done ++ r :: rest).length : Int) := by simp; omega
    have d0 : 0 ≤ (done.length : Int) := by omega
    have w1 : wrap64 (c + 1) = c + 1 := by unfold wrap64; omega
    have e : (done ++ r :: rest).set done.length c = done ++ c :: rest := by
      rw [List.set_append_right _ _ (Nat.le_refl _), Nat.sub_self]
      rfl
    simp only [laws_markIntS.l0, if_pos d, if_pos d0, Int.toNat_natCast, e, w1, wrap_next done.length (by omega)]
    have := ih (done ++ [c]) (c + 1) (by omega) (by omega) (by simp; omega)
    simp only [List.append_assoc, List.singleton_append, List.length_append, List.length_singleton] at this
    refine ev_eq this ?_
    rw [List.length_cons, marksI]
    congr 1
    omega
theorem mark_ints (l : List Int) (h : l.length ≤ 1048576) : Ev (fun k => laws_markIntS.f k l 1) (1 + (l.length : Int), marksI l.length 1) := mark_ints_loop l [] 1 (by omega) (by omega) (by simpa using h)
theorem held_ints_loop : ∀ (n : Nat) (done : List Int) (c : Int), 0 ≤ c → c + n ≤ 1000000000 → done.length + n ≤ 1048576 →
    Ev (fun k => laws_heldIntS.l0 k (done ++ marksI n c) c (done.length : Int)) (c + n) := by
  intro n
  induction n with
  | zero =>
    intro done c h0 h1 h2
    apply ev_step
    have d : ¬ (done.length : Int) < ((done ++ marksI 0 c).length : Int) := by simp [marksI]
    simp only [laws_heldIntS.l0, if_neg d]
    exact ev_eq (ev_const _) (by omega)
  | succ n ih =>
    intro done c h0 h1 h2
    apply ev_step
    rw [marksI]
    have d : (done.length : Int) < ((done ++ c :: marksI n (c + 1)).length : Int) := by simp; omega
    have d0 : 0 ≤ (done.length : Int) := by omega
    have w1 : wrap64 (c + 1) = c + 1 := by unfold wrap64; omega
    simp only [laws_heldIntS.l0, if_pos d, if_pos d0, rdI_at, w1, wrap_next done.length (by omega), if_true]
    have := ih (done ++ [c]) (c + 1) (by omega) (by omega) (by simp; omega)
    simp only [List.append_assoc, List.singleton_append, List.length_append, List.length_singleton] at this
    exact ev_eq this (by omega)
theorem held_ints (n : Nat) (h : n ≤ 1048576) : Ev (fun k => laws_heldIntS.f k (marksI n 1) 1) (1 + (n : Int)) := held_ints_loop n [] 1 (by omega) (by omega) (by simpa using h)
theorem eq_ints_loop (l : List Int) (hn : l.length ≤ 1048576) (d : Nat) : ∀ k (i : Nat), i + d = l.length → d < k → laws_eqIntS.l0 k l l i = some true := by
  induction d with
  | zero =>
    intro k i hd hk
    obtain ⟨k, rfl⟩ : ∃ m, k = m + 1 := ⟨k - 1, by omega⟩
    have c : ¬ (i : Int) < (l.length : Int) := by omega
    simp only [laws_eqIntS.l0, if_neg c]
  | succ d ih =>
    intro k i hd hk
    obtain ⟨k, rfl⟩ : ∃ m, k = m + 1 := ⟨k - 1, by omega⟩
    have c : (i : Int) < (l.length : Int) := by omega
    have c0 : 0 ≤ (i : Int) := Int.natCast_nonneg i
    simp only [laws_eqIntS.l0, if_true, if_pos c, if_pos c0, wrap_next i (by omega)]
    exact ih k (i + 1) (by omega) (by omega)
theorem eq_ints (l : List Int) (hn : l.length ≤ 1048576) : Ev (fun k => laws_eqIntS.f k l l) true := by
  refine Ev.of (fun k => laws_eqIntS.mono _ _ k) (k := l.length + 1) ?_
  unfold laws_eqIntS.f
  rw [if_pos rfl]
  exact eq_ints_loop l hn l.length _ 0 (by omega) (by omega)
def insI (n : Int) : List Int → List Int
  | [] => [n]
  | x :: xs => if x < n then x :: insI n xs else if x = n then x :: xs else n :: x :: xs
def UpI (l : List Int) : Prop := l.Pairwise (· < ·)
theorem insI_len (n : Int) : ∀ l, (insI n l).length ≤ l.length + 1
  | [] => by simp [insI]
  | x :: l => by
    have := insI_len n l
    unfold insI
    repeat' split
    all_goals simp
    omega
theorem insI_mem (n y : Int) : ∀ l, y ∈ insI n l → y = n ∨ y ∈ l
  | [], h => by simp [insI] at h; exact Or.inl h
  | x :: l, h => by
    unfold insI at h
    split at h
    · rcases List.mem_cons.1 h with h | h
      · exact Or.inr (by rw [h]; exact List.mem_cons_self)
      · rcases insI_mem n y l h with h | h
        · exact Or.inl h
        · exact Or.inr (List.mem_cons_of_mem _ h)
    · split at h
      · exact Or.inr h
      · rcases List.mem_cons.1 h with h | h
        · exact Or.inl h
        · exact Or.inr h
theorem insI_up (n : Int) : ∀ l, UpI l → UpI (insI n l)
  | [], _ => by simp [insI, UpI]
  | x :: l, h => by
    unfold UpI at h ⊢
    rw [List.pairwise_cons] at h
    unfold insI
    split
    · rename_i hx
      rw [List.pairwise_cons]
      refine ⟨fun y hy => ?_, insI_up n l h.2⟩
      rcases insI_mem n y l hy with rfl | hy
      · exact hx
      · exact h.1 y hy
    · split
      · rw [List.pairwise_cons]; exact h
      · rw [List.pairwise_cons, List.pairwise_cons]
        refine ⟨fun y hy => ?_, h⟩
        rcases List.mem_cons.1 hy with rfl | hy
        · omega
        · have := h.1 y hy
          omega
theorem insI_in (n : Int) : ∀ l, UpI l → n ∈ l → insI n l = l
  | [], _, h => by simp at h
  | x :: l, h, hn => by
    unfold UpI at h
    rw [List.pairwise_cons] at h
    unfold insI
    rcases List.mem_cons.1 hn with rfl | hn
    · rw [if_neg (by omega), if_pos rfl]
    · rw [if_pos (h.1 n hn), insI_in n l h.2 hn]
def cEvent (x : S120) : S96 := ⟨x.f0, x.f1, x.f2⟩
theorem rdlEvent_get (xs : List S120) (i : Nat) (h : i < xs.length) : rd_T120 xs (i : Int) = xs[i] := by
  unfold rd_T120
  simp [List.getD_eq_getElem?_getD, List.getElem?_eq_getElem h]
theorem toEvent_loop (l : List S120) (hn : l.length ≤ 1048576) (d : Nat) : ∀ k (i : Nat) (x : List S96), i + d = l.length → x.length = (l.map cEvent).length → (∀ j, j < i → x[j]? = (l.map cEvent)[j]?) → d < k →
    laws_toEventS.l0 k l x i = some (l.map cEvent) := by
  induction d with
  | zero =>
    intro k i x hd hx hp hk
    obtain ⟨k, rfl⟩ : ∃ m, k = m + 1 := ⟨k - 1, by omega⟩
    have c : ¬ (i : Int) < (l.length : Int) := by omega
    simp only [laws_toEventS.l0, if_neg c]
    rw [all_grown hx (fun j hj => hp j (by simp at hj; omega))]
  | succ d ih =>
    intro k i x hd hx hp hk
    obtain ⟨k, rfl⟩ : ∃ m, k = m + 1 := ⟨k - 1, by omega⟩
    have hxl : x.length = l.length := by simpa using hx
    have c : (i : Int) < (l.length : Int) := by omega
    have c2 : (i : Int) < (x.length : Int) := by omega
    have hi : i < l.length := by omega
    have c0 : 0 ≤ (i : Int) := Int.natCast_nonneg i
    simp only [laws_toEventS.l0, laws_toEvent.f, Option.bind_some, if_pos c, if_pos c0, if_pos c2, rdlEvent_get l i hi, wrap_next i (by omega), Int.toNat_natCast]
    obtain ⟨h1, h2⟩ := set_grown (v := cEvent l[i]) hx hp (by simpa using hi) (by simp [List.getElem?_eq_getElem hi])
    exact ih k (i + 1) _ (by omega) h1 h2 (by omega)
theorem toEvent_all (l : List S120) (hn : l.length ≤ 1048576) (k : Nat) (hk : 1048576 < k) : laws_toEventS.f k l = some (l.map cEvent) := by
  unfold laws_toEventS.f
  have c1 : 0 ≤ (l.length : Int) := Int.natCast_nonneg _
  simp only [Int.toNat_natCast]
  rw [if_pos c1, if_pos (by omega)]
  exact toEvent_loop l hn l.length k 0 _ (by omega) (by simp) (fun j hj => by omega) (by omega)
theorem eqEvent_loop (l : List S96) (hn : l.length ≤ 1048576) (d : Nat) : ∀ k (i : Nat), i + d = l.length → d < k → laws_eqEventS.l0 k l l i = some true := by
  induction d with
  | zero =>
    intro k i hd hk
    obtain ⟨k, rfl⟩ : ∃ m, k = m + 1 := ⟨k - 1, by omega⟩
    have c : ¬ (i : Int) < (l.length : Int) := by omega
    simp only [laws_eqEventS.l0, if_neg c]
  | succ d ih =>
    intro k i hd hk
    obtain ⟨k, rfl⟩ : ∃ m, k = m + 1 := ⟨k - 1, by omega⟩
    have c : (i : Int) < (l.length : Int) := by omega
    have c0 : 0 ≤ (i : Int) := Int.natCast_nonneg i
    simp only [laws_eqEventS.l0, laws_eqEvent.f, if_true, Option.bind_some, if_pos c, if_pos c0, wrap_next i (by omega)]
    exact ih k (i + 1) (by omega) (by omega)
theorem eqEvent_all (l : List S96) (hn : l.length ≤ 1048576) (k : Nat) (hk : 1048576 < k) : laws_eqEventS.f k l l = some true := by
  unfold laws_eqEventS.f
  rw [if_pos rfl]
  exact eqEvent_loop l hn l.length k 0 (by omega) (by omega)
theorem sz_result (x : Int) (a : ByteArray) (y z : Int) (l : List S120) (ha : a.size ≤ 9223372036854775807) (hl : l.length ≤ 9223372036854775807) :
    ∃ r, laws_szResult.f x a y z l 1048576 = some r ∧ (0 ≤ r → l.length ≤ 1048576) := by
  simp only [laws_szResult.f, laws_szEventS.f]
  have e1 : wrap64 (1048576 - (a.size : Int)) = 1048576 - (a.size : Int) := by unfold wrap64; omega
  rw [e1]
  by_cases h1 : 1048576 - (a.size : Int) < 0
  · simp only [if_pos h1]
    exact ⟨-1, rfl, fun h => by omega⟩
  · simp only [if_neg h1]
    have e2 : wrap64 (1048576 - (a.size : Int) - (l.length : Int)) = 1048576 - (a.size : Int) - (l.length : Int) := by unfold wrap64; omega
    rw [e2]
    by_cases h2 : 1048576 - (a.size : Int) - (l.length : Int) < 0
    · simp only [if_pos h2, Option.bind_some]
      exact ⟨-1, by simp, fun h => by omega⟩
    · simp only [if_neg h2, Option.bind_some]
      exact ⟨_, rfl, fun h => by omega⟩
theorem ev_result (x : Int) (a : ByteArray) (y z : Int) (l : List S120) (hl : l.length ≤ 1048576) : Ev (fun k => laws_toResult.f k x a y z l) (x, a, y, z, l.map cEvent) := by
  refine ev_at 1048577 fun k hk => ?_
  unfold laws_toResult.f
  rw [toEvent_all l hl k (by omega)]
  rfl
theorem ev_eqResult (x : Int) (a : ByteArray) (y z : Int) (l : List S96) (hl : l.length ≤ 1048576) : Ev (fun k => laws_eqResult.f k x a y z l x a y z l) true := by
  refine ev_at 1048577 fun k hk => ?_
  unfold laws_eqResult.f
  simp only [if_true, eqEvent_all l hl k (by omega), Option.bind_some]
theorem mark_events_loop (d : Nat) : ∀ k (i : Nat) (x : List S96) (c : Int), i + d = x.length → d ≤ 1048576 → i + d ≤ 1048576 → 0 ≤ c → c + 3 * d ≤ 1000000000 → d < k → ∃ r, laws_markEventS.l0 k x c i = some (c + 3 * d, r) := by
  induction d with
  | zero =>
    intro k i x c hd h1 h2 h3 h4 hk
    obtain ⟨k, rfl⟩ : ∃ m, k = m + 1 := ⟨k - 1, by omega⟩
    have e : ¬ (i : Int) < (x.length : Int) := by omega
    simp only [laws_markEventS.l0, if_neg e]
    exact ⟨x, by simp⟩
  | succ d ih =>
    intro k i x c hd h1 h2 h3 h4 hk
    obtain ⟨k, rfl⟩ : ∃ m, k = m + 1 := ⟨k - 1, by omega⟩
    have e : (i : Int) < (x.length : Int) := by omega
    have e0 : 0 ≤ (i : Int) := Int.natCast_nonneg i
    have w1 : wrap64 (c + 1) = c + 1 := by unfold wrap64; omega
    have w2 : wrap64 (c + 1 + 1) = c + 1 + 1 := by unfold wrap64; omega
    have w3 : wrap64 (c + 1 + 1 + 1) = c + 3 := by unfold wrap64; omega
    simp only [laws_markEventS.l0, if_pos e, if_pos e0, Option.bind_some, w1, w2, w3, wrap_next i (by omega), Int.toNat_natCast]
    have e3 : c + 3 * ((d + 1 : Nat) : Int) = (c + 3) + 3 * (d : Nat) := by omega
    rw [e3]
    exact ih k (i + 1) _ (c + 3) (by simp only [List.length_set]; omega) (by omega) (by omega) (by omega) (by omega) (by omega)
theorem ev_mark (x : Int) (a : ByteArray) (y z : Int) (l : List S96) (hl : l.length ≤ 1048576) : ∃ r, Ev (fun k => laws_markResult.f k x a y z l 1) (1 + 3 * (l.length : Int), r) := by
  obtain ⟨r, hr⟩ := mark_events_loop l.length 1048577 0 l 1 (by omega) hl (by omega) (by omega) (by omega) (by omega)
  refine ⟨r, ?_⟩
  have hr' : laws_markEventS.f 1048577 l 1 = some (1 + 3 * (l.length : Int), r) := hr
  unfold laws_markResult.f
  refine ev_bind (Ev.of (fun k => laws_markEventS.mono _ _ k) hr') ?_
  exact ev_const _
theorem rdE_at (done : List S96) (r : S96) (rest : List S96) : rd_T96 (done ++ r :: rest) (done.length : Int) = r := by
  unfold rd_T96
  simp
theorem with_loop (n : Int) : ∀ (rest done : List Int), done.length + rest.length ≤ 1048577 → Ev (fun k => impl_withInt.l0 k (done ++ rest) n (done.length : Int)) (done ++ insI n rest) := by
  intro rest
  induction rest with
  | nil =>
    intro done h
    apply ev_step
    have d : ¬ (done.length : Int) < ((done ++ ([] : List Int)).length : Int) := by simp
    have d0 : 0 ≤ (done.length : Int) := by omega
    have d1 : (done.length : Int) ≤ ((done ++ ([] : List Int)).length : Int) := by simp
    have e1 : (done ++ ([] : List Int)).take done.length = done := by simp
    have e2 : (done ++ ([] : List Int)).drop done.length = [] := by simp
    have c1 : ([] : List Int).length + done.length < 17592186044416 := by simp at h ⊢; omega
    have c2 : done.length + ([n] : List Int).length < 17592186044416 := by simp at h ⊢; omega
    have c3 : (done ++ [n]).length + ([] : List Int).length < 17592186044416 := by simp at h ⊢; omega
    simp only [impl_withInt.l0, if_neg d, if_pos d0, if_pos d1, Option.bind_some, Int.toNat_natCast, e1, e2, List.nil_append, if_pos c1, if_pos c2, if_pos c3]
    exact ev_eq (ev_const _) (by simp [insI])
  | cons r rest ih =>
    intro done h
    simp only [List.length_cons] at h
    apply ev_step
    have d : (done.length : Int) < ((done ++ r :: rest).length : Int) := by simp; omega
    have d0 : 0 ≤ (done.length : Int) := by omega
    have d1 : (done.length : Int) ≤ ((done ++ r :: rest).length : Int) := by simp; omega
    simp only [impl_withInt.l0, if_pos d, if_pos d0, rdI_at]
    by_cases hr : r < n
    · simp only [if_pos hr, wrap_next done.length (by omega)]
      have := ih (done ++ [r]) (by simp; omega)
      simp only [List.append_assoc, List.singleton_append, List.length_append, List.length_singleton] at this
      exact ev_eq this (by simp [insI, hr])
    · simp only [if_neg hr]
      by_cases he : r = n
      · simp only [if_pos he]
        exact ev_eq (ev_const _) (by simp [insI, hr, he])
      · have e1 : (done ++ r :: rest).take done.length = done := by simp
        have e2 : (done ++ r :: rest).drop done.length = r :: rest := by simp
        have c1 : ([] : List Int).length + done.length < 17592186044416 := by simp at h ⊢; omega
        have c2 : done.length + ([n] : List Int).length < 17592186044416 := by simp at h ⊢; omega
        have c3 : (done ++ [n]).length + (r :: rest).length < 17592186044416 := by simp at h ⊢; omega
        simp only [if_neg he, if_pos d1, Option.bind_some, Int.toNat_natCast, e1, e2, List.nil_append, if_pos c1, if_pos c2, if_pos c3]
        exact ev_eq (ev_const _) (by simp [insI, hr, he])
theorem impl_with (l : List Int) (n : Int) (h : l.length ≤ 1048577) : Ev (fun k => impl_withInt.f k l n) (insI n l) := with_loop n l [] (by simpa using h)
theorem l12_done (n : Int) (l : List Int) : ∀ (rest done out : List Int), done ++ rest = l → (∀ y ∈ rest, y ≠ n) → done.length + rest.length ≤ 1048577 → out.length + rest.length ≤ 3048577 → Ev (fun k => spec_l12Int.l0 k l n out true (done.length : Int)) (out ++ rest) := by
  intro rest
  induction rest with
  | nil =>
    intro done out e hy h1 h2
    apply ev_step
    subst e
    have d : ¬ (done.length : Int) < ((done ++ ([] : List Int)).length : Int) := by simp
    simp only [spec_l12Int.l0, if_neg d, if_true]
    exact ev_eq (ev_const _) (by simp)
  | cons r rest ih =>
    intro done out e hy h1 h2
    simp only [List.length_cons] at h1 h2
    apply ev_step
    subst e
    have d : (done.length : Int) < ((done ++ r :: rest).length : Int) := by simp; omega
    have d0 : 0 ≤ (done.length : Int) := by omega
    have hr : ¬ r = n := hy r (by simp)
    have c1 : out.length < 17592186044416 := by omega
    simp only [spec_l12Int.l0, if_pos d, if_pos d0, rdI_at, if_neg hr, if_true, if_pos c1, wrap_next done.length (by omega)]
    have := ih (done ++ [r]) (out ++ [r]) (by simp) (fun y hy' => hy y (by simp [hy'])) (by simp; omega) (by simp; omega)
    simp only [List.length_append, List.length_singleton] at this
    exact ev_eq this (by simp)
theorem l12_loop (n : Int) (l : List Int) : ∀ (rest done out : List Int), done ++ rest = l → UpI rest → done.length + rest.length ≤ 1048577 → out.length + rest.length ≤ 2048577 → Ev (fun k => spec_l12Int.l0 k l n out false (done.length : Int)) (if n ∈ rest then l else out ++ insI n rest) := by
  intro rest
  induction rest with
  | nil =>
    intro done out e hu h1 h2
    apply ev_step
    subst e
    have d : ¬ (done.length : Int) < ((done ++ ([] : List Int)).length : Int) := by simp
    have c1 : out.length < 17592186044416 := by omega
    simp only [spec_l12Int.l0, if_neg d, Bool.false_eq_true, if_false, if_pos c1]
    exact ev_eq (ev_const _) (by simp [insI])
  | cons r rest ih =>
    intro done out e hu h1 h2
    simp only [List.length_cons] at h1 h2
    unfold UpI at hu
    rw [List.pairwise_cons] at hu
    apply ev_step
    have e' := e
    subst e
    have d : (done.length : Int) < ((done ++ r :: rest).length : Int) := by simp; omega
    have d0 : 0 ≤ (done.length : Int) := by omega
    have c1 : out.length < 17592186044416 := by omega
    simp only [spec_l12Int.l0, if_pos d, if_pos d0, rdI_at, Bool.false_eq_true, if_false]
    by_cases hr : r = n
    · simp only [if_pos hr]
      exact ev_eq (ev_const _) (by simp [hr])
    · simp only [if_neg hr]
      by_cases hg : r > n
      · have c2 : (out ++ [n]).length < 17592186044416 := by simp; omega
        simp only [if_pos hg, if_pos c1, Option.bind_some, if_pos c2, wrap_next done.length (by omega)]
        have hne : ∀ y ∈ rest, y ≠ n := fun y hy => by have := hu.1 y hy; omega
        have := l12_done n (done ++ r :: rest) rest (done ++ [r]) (out ++ [n] ++ [r]) (by simp) hne (by simp; omega) (by simp; omega)
        simp only [List.length_append, List.length_singleton] at this
        refine ev_eq this ?_
        have hm : ¬ n ∈ r :: rest := by
          intro hm
          rcases List.mem_cons.1 hm with h | h
          · exact hr h.symm
          · exact hne n h rfl
        have h3 : ¬ r < n := by omega
        rw [if_neg hm]
        simp [insI, h3, hr]
      · simp only [if_neg hg, if_pos c1, wrap_next done.length (by omega)]
        have := ih (done ++ [r]) (out ++ [r]) (by simp) hu.2 (by simp; omega) (by simp; omega)
        simp only [List.length_append, List.length_singleton] at this
        refine ev_eq this ?_
        have h3 : r < n := by omega
        have hm : (n ∈ r :: rest) = (n ∈ rest) := by simp; omega
        simp only [hm]
        split
        · rfl
        · simp [insI, h3]
theorem spec_l12 (l : List Int) (n : Int) (hu : UpI l) (h : l.length ≤ 1048576) : Ev (fun k => spec_l12Int.f k l n) (insI n l) := by
  refine ev_eq (l12_loop n l l [] [] rfl hu (by simp; omega) (by simp; omega)) ?_
  split
  · rename_i hm
    exact (insI_in n l hu hm).symm
  · rfl
def numsF (sel : S96 → Option Int) : List S96 → List Int → List Int
  | [], acc => acc
  | e :: l, acc => numsF sel l (match sel e with | some n => insI n acc | none => acc)
theorem numsF_len (sel : S96 → Option Int) : ∀ l acc, (numsF sel l acc).length ≤ acc.length + l.length
  | [], acc => by simp [numsF]
  | e :: l, acc => by
    unfold numsF
    have := numsF_len sel l (match sel e with | some n => insI n acc | none => acc)
    have h2 : (match sel e with | some n => insI n acc | none => acc).length ≤ acc.length + 1 := by
      split
      · exact insI_len _ _
      · omega
    simp only [List.length_cons]
    omega
def selT (n : Int) (e : S96) : Option Int := if e.f0 = 2 then (if e.f1 = n then some e.f2 else none) else none
theorem spec_loop (n x : Int) (a : ByteArray) (y z : Int) : ∀ (rest done : List S96) (acc : List Int), UpI acc → acc.length + rest.length ≤ 1048576 → done.length + rest.length ≤ 1048576 →
    Ev (fun k => spec_TagsOf.l0 k n acc (done.length : Int) x a y z (done ++ rest)) (numsF (selT n) rest acc) := by
  intro rest
  induction rest with
  | nil =>
    intro done acc hu h1 h2
    apply ev_step
    have d : ¬ (done.length : Int) < ((done ++ ([] : List S96)).length : Int) := by simp
    simp only [spec_TagsOf.l0, if_neg d]
    exact ev_const _
  | cons r rest ih =>
    intro done acc hu h1 h2
    simp only [List.length_cons] at h1 h2
    apply ev_step
    have d : (done.length : Int) < ((done ++ r :: rest).length : Int) := by simp; omega
    have d0 : 0 ≤ (done.length : Int) := by omega
    simp only [spec_TagsOf.l0, if_pos d, if_pos d0, rdE_at, wrap_next done.length (by omega)]
    have no := ih (done ++ [r]) acc hu (by omega) (by simp; omega)
    simp only [List.append_assoc, List.singleton_append, List.length_append, List.length_singleton] at no
    by_cases c : r.f0 = 2
    · simp only [if_pos c]
      by_cases c2 : r.f1 = n
      · simp only [if_pos c2]
        refine ev_bind (spec_l12 acc r.f2 hu (by omega)) ?_
        have := ih (done ++ [r]) (insI r.f2 acc) (insI_up _ _ hu) (by have := insI_len r.f2 acc; omega) (by simp; omega)
        simp only [List.append_assoc, List.singleton_append, List.length_append, List.length_singleton] at this
        exact ev_eq this (by simp [numsF, selT, c, c2])
      · simp only [if_neg c2]
        exact ev_eq no (by simp [numsF, selT, c, c2])
    · simp only [if_neg c]
      exact ev_eq no (by simp [numsF, selT, c])
theorem impl_loop (n N : Int) : ∀ (rest done : List S96) (acc : List Int), acc.length + rest.length ≤ 1048576 → done.length + rest.length ≤ 1048576 → N = ((done ++ rest).length : Int) →
    Ev (fun k => impl_numbersOf.l0 k n acc (done ++ rest) N (done.length : Int)) (numsF (selT n) rest acc) := by
  intro rest
  induction rest with
  | nil =>
    intro done acc h1 h2 hN
    apply ev_step
    have d : ¬ (done.length : Int) < N := by rw [hN]; simp
    simp only [impl_numbersOf.l0, if_neg d]
    exact ev_const _
  | cons r rest ih =>
    intro done acc h1 h2 hN
    simp only [List.length_cons] at h1 h2
    apply ev_step
    have d : (done.length : Int) < ((done ++ r :: rest).length : Int) := by simp; omega
    have d' : (done.length : Int) < N := by rw [hN]; exact d
    have d0 : 0 ≤ (done.length : Int) := by omega
    have no := ih (done ++ [r]) acc (by omega) (by simp; omega) (by rw [hN]; simp)
    simp only [List.append_assoc, List.singleton_append, List.length_append, List.length_singleton] at no
    simp only [impl_numbersOf.l0, impl_TagsOf_1.f, if_pos d, if_pos d', if_pos d0, rdE_at, wrap_next done.length (by omega)]
    by_cases c : r.f0 = 2
    · simp only [if_pos c, Option.bind_some]
      by_cases c2 : r.f1 = n
      · have c' : (r.f1 == n) = true := by simp [c2]
        simp only [if_pos c']
        refine ev_bind (impl_with acc r.f2 (by omega)) ?_
        have := ih (done ++ [r]) (insI r.f2 acc) (by have := insI_len r.f2 acc; omega) (by simp; omega) (by rw [hN]; simp)
        simp only [List.append_assoc, List.singleton_append, List.length_append, List.length_singleton] at this
        exact ev_eq this (by simp [numsF, selT, c, c2])
      · have c' : ¬ (r.f1 == n) = true := by simp [c2]
        simp only [if_neg c']
        exact ev_eq no (by simp [numsF, selT, c, c2])
    · simp only [if_neg c, Option.bind_some, Bool.false_eq_true, if_false]
      exact ev_eq no (by simp [numsF, selT, c])
theorem spec_all (n x : Int) (a : ByteArray) (y z : Int) (l : List S96) (h : l.length ≤ 1048576) : Ev (fun k => spec_TagsOf.f k x a y z l n) (numsF (selT n) l []) :=
  spec_loop n x a y z l [] [] List.Pairwise.nil (by simpa using h) (by simpa using h)
theorem impl_all (n x : Int) (a : ByteArray) (y z : Int) (l : List S96) (h : l.length ≤ 1048576) : Ev (fun k => impl_TagsOf.f k x a y z l n) (numsF (selT n) l []) := by
  unfold impl_TagsOf.f impl_numbersOf.f
  exact ev_bind (impl_loop n _ l [] [] (by simpa using h) (by simpa using h) rfl) (ev_const _)
theorem FnExactTagsOf : Pure := by
  intro x a y z l n _ ha _ _ ⟨hl, _⟩ _
  refine Ev.rounds ?_
  unfold laws_FnExactTagsOf.f
  obtain ⟨r, h1, h2⟩ := sz_result x a y z l ha hl
  rw [h1]; simp only [Option.bind_some]
  by_cases c : r < 0
  · simp only [if_pos c]
    exact ev_const _
  · simp only [if_neg c]
    have la := h2 (by omega)
    have ln : (l.map cEvent).length ≤ 1048576 := by simpa using la
    have hb := numsF_len (selT n) (l.map cEvent) []
    simp only [List.length_nil] at hb
    have eqb := eq_ints (numsF (selT n) (l.map cEvent) []) (by omega)
    have sp := spec_all n x a y z (l.map cEvent) ln
    have im := impl_all n x a y z (l.map cEvent) ln
    have tz := ev_result x a y z l la
    refine ev_bind tz (ev_bind sp (ev_bind tz (ev_bind im (ev_bind eqb ?_))))
    simp only [if_true]
    refine ev_bind tz (ev_bind (ev_eqResult x a y z _ ln) ?_)
    simp only [if_true]
    obtain ⟨rm, hm⟩ := ev_mark x a y z (l.map cEvent) ln
    refine ev_bind hm ?_
    have cm : ¬ 1 + 3 * ((l.map cEvent).length : Int) < 0 := by omega
    simp only [if_neg cm]
    refine ev_bind eqb ?_
    apply ev_step
    simp only [laws_FnExactTagsOf.j0, Bool.not_true, Bool.false_eq_true, if_false]
    have held := held_ints (numsF (selT n) (l.map cEvent) []).length (by omega)
    have cb : ¬ 1 + ((numsF (selT n) (l.map cEvent) []).length : Int) < 0 := by omega
    refine ev_bind (mark_ints _ (by omega)) (ev_bind held ?_)
    simp only [if_neg cb, if_true]
    refine ev_bind tz (ev_bind im (ev_bind eqb ?_))
    simp only [if_true]
    refine ev_bind held ?_
    simp only [if_neg cb, if_true]
    exact ev_const _
end Go.Proofs.Ytecfpllbilgdmaa.Pure

