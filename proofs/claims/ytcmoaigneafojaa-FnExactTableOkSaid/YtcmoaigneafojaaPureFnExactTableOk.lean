/- TableOk: entries are asked one by one, and then the rounds turn the same marks: one told answer for both. -/
import Derived.Test.YtcmoaigneafojaaSayFnExactTableOk
import Derived.Laws.Strings
import Derived.Laws.BitsLemmas
set_option linter.unusedVariables false
set_option linter.unusedSimpArgs false
namespace Go.Proofs.Ytcmoaigneafojaa.Pure
open Go.RowKit Go.Proofs.Ytcmoaigneafojaa.PFnExactTableOk Go.Proofs.YtcmoaigneafojaaW.PrintWords Go.Proofs.YtcmoaigneafojaaW.PrintLast Go.Proofs.Ytcmoaigneafojaa.SayFnExactTableOk

/-- TableOk: entries are asked one by one, and then the rounds turn the same marks: one told answer for both. -/
theorem wrap_next (i : Nat) (h : i < 4611686018427387904) : wrap64 ((i : Int) + 1) = ((i + 1 : Nat) : Int) := by unfold wrap64; omega
theorem set_grown {α : Type} {x m : List α} {i : Nat} (hl : x.length = m.length) (h : ∀ j, j < i → x[j]? = m[j]?) (hi : i < m.length) {v : α} (hv : m[i]? = some v) : (x.set i v).length = m.length ∧ ∀ j, j < i + 1 → (x.set i v)[j]? = m[j]? := by
  refine ⟨by rw [List.length_set, hl], fun j hj => ?_⟩
  by_cases e : j = i
  · subst e
    rw [List.getElem?_set_self (by omega), hv]
  · rw [List.getElem?_set_ne (by omega)]
    exact h j (by omega)
theorem all_grown {α : Type} {x m : List α} (hl : x.length = m.length) (h : ∀ j, j < m.length → x[j]? = m[j]?) : x = m := by
  apply List.ext_getElem? ; intro j
  by_cases hj : j < m.length
  · exact h j hj
  · rw [List.getElem?_eq_none (by omega), List.getElem?_eq_none (by omega)]

theorem ev_step {α : Type} {g : Nat → Option α} {r : α} (h : Ev (fun k => g (k + 1)) r) : Ev g r := Ev.step (fun _ => rfl) h
theorem ev_bind {α β : Type} {g : Nat → Option α} {f : Nat → α → Option β} {a : α} {r : β} (h : Ev g a) (k : Ev (fun n => f n a) r) : Ev (fun n => (g n).bind (f n)) r := Ev.bind h k
theorem ev_const {α : Type} (r : α) : Ev (fun _ => some r) r := Ev.now r
theorem ev_at {α : Type} {g : Nat → Option α} {r : α} (n : Nat) (h : ∀ k, n ≤ k → g k = some r) : Ev g r := ⟨n, h⟩
theorem ev_eq {α : Type} {g : Nat → Option α} {r q : α} (h : Ev g r) (e : r = q) : Ev g q := e ▸ h

def cType (x : S99) : S95 := ⟨x.f0, x.f1, x.f2⟩
theorem rdlType_get (xs : List S99) (i : Nat) (h : i < xs.length) : rd_T99 xs (i : Int) = xs[i] := by
  unfold rd_T99
  simp [List.getD_eq_getElem?_getD, List.getElem?_eq_getElem h]
theorem rdiType_get (xs : List S95) (i : Nat) (h : i < xs.length) : rd_T95 xs (i : Int) = xs[i] := by
  unfold rd_T95
  simp [List.getD_eq_getElem?_getD, List.getElem?_eq_getElem h]
theorem toType_loop (l : List S99) (hn : l.length ≤ 1048576) (d : Nat) : ∀ k (i : Nat) (x : List S95), i + d = l.length → x.length = (l.map cType).length → (∀ j, j < i → x[j]? = (l.map cType)[j]?) → d < k →
    laws_toTypeS.l0 k l x i = some (l.map cType) := by
  induction d with
  | zero =>
    intro k i x hd hx hp hk
    obtain ⟨k, rfl⟩ : ∃ m, k = m + 1 := ⟨k - 1, by omega⟩
    have c : ¬ (i : Int) < (l.length : Int) := by omega
    simp only [laws_toTypeS.l0, if_neg c]
    rw [all_grown hx (fun j hj => hp j (by simp at hj; omega))]
  | succ d ih =>
    intro k i x hd hx hp hk
    obtain ⟨k, rfl⟩ : ∃ m, k = m + 1 := ⟨k - 1, by omega⟩
    have hxl : x.length = l.length := by simpa using hx
    have c : (i : Int) < (l.length : Int) := by omega
    have c2 : (i : Int) < (x.length : Int) := by omega
    have hi : i < l.length := by omega
    have c0 : 0 ≤ (i : Int) := Int.natCast_nonneg i
    simp only [laws_toTypeS.l0, laws_toType.f, Option.bind_some, if_pos c, if_pos c0, if_pos c2, rdlType_get l i hi, wrap_next i (by omega), Int.toNat_natCast]
    obtain ⟨h1, h2⟩ := set_grown (v := cType l[i]) hx hp (by simpa using hi) (by simp [List.getElem?_eq_getElem hi])
    exact ih k (i + 1) _ (by omega) h1 h2 (by omega)
theorem toType_all (l : List S99) (hn : l.length ≤ 1048576) (k : Nat) (hk : 1048576 < k) : laws_toTypeS.f k l = some (l.map cType) := by
  unfold laws_toTypeS.f
  have c1 : 0 ≤ (l.length : Int) := Int.natCast_nonneg _
  simp only [Int.toNat_natCast]
  rw [if_pos c1, if_pos (by omega)]
  exact toType_loop l hn l.length k 0 _ (by omega) (by simp) (fun j hj => by omega) (by omega)

theorem eqType_loop (l : List S95) (hn : l.length ≤ 1048576) (d : Nat) : ∀ k (i : Nat), i + d = l.length → d < k → laws_eqTypeS.l0 k l l i = some true := by
  induction d with
  | zero =>
    intro k i hd hk
    obtain ⟨k, rfl⟩ : ∃ m, k = m + 1 := ⟨k - 1, by omega⟩
    have c : ¬ (i : Int) < (l.length : Int) := by omega
    simp only [laws_eqTypeS.l0, if_neg c]
  | succ d ih =>
    intro k i hd hk
    obtain ⟨k, rfl⟩ : ∃ m, k = m + 1 := ⟨k - 1, by omega⟩
    have c : (i : Int) < (l.length : Int) := by omega
    have c0 : 0 ≤ (i : Int) := Int.natCast_nonneg i
    simp only [laws_eqTypeS.l0, laws_eqType.f, if_true, Option.bind_some, if_pos c, if_pos c0, wrap_next i (by omega)]
    exact ih k (i + 1) (by omega) (by omega)
theorem eqType_all (l : List S95) (hn : l.length ≤ 1048576) (k : Nat) (hk : 1048576 < k) : laws_eqTypeS.f k l l = some true := by
  unfold laws_eqTypeS.f
  rw [if_pos rfl]
  exact eqType_loop l hn l.length k 0 (by omega) (by omega)

theorem sz_types (a : List S99) (ha : a.length ≤ 9223372036854775807) : ∃ r, laws_szTypeS.f a 1048576 = some r ∧ (0 ≤ r → a.length ≤ 1048576) := by
  unfold laws_szTypeS.f
  have e1 : wrap64 (1048576 - (a.length : Int)) = 1048576 - (a.length : Int) := by unfold wrap64; omega
  rw [e1]
  by_cases h1 : 1048576 - (a.length : Int) < 0
  · rw [if_pos h1]
    exact ⟨-1, rfl, fun h => by omega⟩
  · rw [if_neg h1]
    exact ⟨_, rfl, fun h => by omega⟩
theorem ev_toTypes (l : List S99) (hn : l.length ≤ 1048576) : Ev (fun k => laws_toTypeS.f k l) (l.map cType) := ev_at 1048577 fun k hk => toType_all l hn k (by omega)
theorem ev_eqTypes (l : List S95) (hn : l.length ≤ 1048576) : Ev (fun k => laws_eqTypeS.f k l l) true := ev_at 1048577 fun k hk => eqType_all l hn k (by omega)

theorem rdT_get (xs : List S95) (i : Nat) (h : i < xs.length) : rd_T95 xs (i : Int) = xs[i] := by
  unfold rd_T95
  simp [List.getD_eq_getElem?_getD, List.getElem?_eq_getElem h]
theorem rd_get (xs : List Int) (i : Nat) (h : i < xs.length) : rd xs (i : Int) = xs[i] := by
  unfold rd
  simp [List.getD_eq_getElem?_getD, List.getElem?_eq_getElem h]
theorem in_same (a b c : Int) : impl_in.f a b c = spec_l1In.f a b c := rfl
theorem in_some (a b c : Int) : spec_l1In.f a b c = some (decide (a ≥ b ∧ a ≤ c)) := by
  unfold spec_l1In.f
  by_cases h : a ≥ b
  · simp [h]
  · simp [h]
/-- what an entry leads to. -/
def kids (e : S95) : List Int :=
  if e.f0 = 0 then (if e.f1 ≥ 0 then [e.f1] else []) else if e.f0 = 2 ∨ e.f0 = 3 then [e.f1, e.f2] else if e.f0 = 4 ∨ e.f0 = 5 then [e.f1] else []
theorem spec_kids (e : S95) : Ev (fun k => spec_l8Kids.f k e.f0 e.f1 e.f2) (kids e) := by
  refine ev_at 1 fun k hk => ?_
  obtain ⟨k, rfl⟩ : ∃ m, k = m + 1 := ⟨k - 1, by omega⟩
  simp only [spec_l8Kids.f, spec_l8Kids.j0, kids]
  by_cases h0 : e.f0 = 0
  · simp only [if_pos h0]
    split <;> rfl
  · simp only [if_neg h0]
    by_cases h2 : e.f0 = 2
    · simp [h2]
    · by_cases h3 : e.f0 = 3
      · simp [h3]
      · by_cases h4 : e.f0 = 4
        · simp [h4]
        · by_cases h5 : e.f0 = 5
          · simp [h5]
          · simp [h2, h3, h4, h5]
theorem impl_kids (e : S95) (h : 0 ≤ e.f0 ∧ e.f0 ≤ 5) : Ev (fun k => impl_partsOf.f k e.f0 e.f1 e.f2) (kids e) := by
  refine ev_at 1 fun k hk => ?_
  obtain ⟨k, rfl⟩ : ∃ m, k = m + 1 := ⟨k - 1, by omega⟩
  simp only [impl_partsOf.f, impl_partsOf.j0, impl_twoParts.f, kids]
  have hc : e.f0 = 0 ∨ e.f0 = 1 ∨ e.f0 = 2 ∨ e.f0 = 3 ∨ e.f0 = 4 ∨ e.f0 = 5 := by omega
  rcases hc with h | h | h | h | h | h <;> simp [h]
  by_cases h1 : e.f1 < 0
  · simp [h1, show ¬ 0 ≤ e.f1 by omega]
  · simp [h1, show 0 ≤ e.f1 by omega]
def inr (n : Nat) (x : Int) : Bool := decide (0 ≤ x ∧ x < n)
theorem in_len (n : Nat) (hn : n ≤ 1048576) (x : Int) : spec_l1In.f x 0 (wrap64 ((n : Int) - 1)) = some (inr n x) := by
  rw [in_some, show wrap64 ((n : Int) - 1) = (n : Int) - 1 by unfold wrap64; omega]
  unfold inr
  congr 1
  rw [decide_eq_decide]
  omega
/-- an entry by itself. -/
def entry (n : Nat) (e : S95) : Bool :=
  decide (0 ≤ e.f0 ∧ e.f0 ≤ 5) && !decide (e.f0 = 0 ∧ e.f1 < -1) && !decide (e.f0 = 1 ∧ e.f1 ≠ 0) && decide (e.f0 = 2 ∨ e.f0 = 3 ∨ e.f2 = 0) && (kids e).all (inr n)
theorem spec_in (t : List S95) (hn : t.length ≤ 1048576) (i : Nat) (ks : List Int) {r : Bool} (h : ks.all (inr t.length) = true → Ev (fun k => spec_TableOk.l0 k t ((i + 1 : Nat) : Int)) r) (hi : i < 1048576) (m : Nat) : ∀ j : Nat, j + m = ks.length → ks.length ≤ 2 → (ks.take j).all (inr t.length) = true →
    Ev (fun k => spec_TableOk.l1 k t i ks j) ((ks.drop j).all (inr t.length) && r) := by
  induction m with
  | zero =>
    intro j hj h2 ht
    have c : ¬ (j : Int) < (ks.length : Int) := by omega
    apply ev_step
    simp only [spec_TableOk.l1, if_neg c, wrap_next i (by omega)]
    rw [List.drop_of_length_le (by omega)]
    rw [List.take_of_length_le (by omega)] at ht
    simpa using h ht
  | succ m ih =>
    intro j hj h2 ht
    have c : (j : Int) < (ks.length : Int) := by omega
    have c0 : 0 ≤ (j : Int) := Int.natCast_nonneg j
    apply ev_step
    simp only [spec_TableOk.l1, if_pos c, if_pos c0, wrap_next j (by omega), in_len t.length hn, Option.bind_some]
    rw [List.drop_eq_getElem_cons (show j < ks.length by omega), List.all_cons, rd_get ks j (by omega)]
    cases hb : inr t.length ks[j]
    · exact ev_const false
    · simpa using ih (j + 1) (by omega) h2 (by
        rw [List.take_succ_eq_append_getElem (by omega), List.all_append, ht]
        simpa using hb)
theorem kids_two (e : S95) : (kids e).length ≤ 2 := by
  unfold kids
  repeat' split
  all_goals simp
theorem spec_entry (t : List S95) (hn : t.length ≤ 1048576) (i : Nat) (hi : i < t.length) {r : Bool} (h : entry t.length t[i] = true → Ev (fun k => spec_TableOk.l0 k t ((i + 1 : Nat) : Int)) r) : Ev (fun k => spec_TableOk.l0 k t i) (entry t.length t[i] && r) := by
  have c : (i : Int) < (t.length : Int) := by omega
  have c0 : 0 ≤ (i : Int) := Int.natCast_nonneg i
  have j2 : ((kids t[i]).all (inr t.length) = true → Ev (fun k => spec_TableOk.l0 k t ((i + 1 : Nat) : Int)) r) → Ev (fun k => spec_TableOk.j2 k t i false) ((kids t[i]).all (inr t.length) && r) := by
    intro h
    apply ev_step
    simp only [spec_TableOk.j2, if_pos c, if_pos c0, Bool.false_eq_true, if_false, rdT_get t i hi]
    exact ev_bind (spec_kids t[i]) (by simpa using spec_in t hn i (kids t[i]) h (by omega) (kids t[i]).length 0 (by omega) (kids_two _) rfl)
  have j2t : Ev (fun k => spec_TableOk.j2 k t i true) false := by
    apply ev_step
    simp only [spec_TableOk.j2, if_true]
    exact ev_const false
  have j1t : Ev (fun k => spec_TableOk.j1 k t i true) false := by
    apply ev_step
    simp only [spec_TableOk.j1, if_true]
    exact ev_const false
  have j1 : ((decide (t[i].f0 = 2 ∨ t[i].f0 = 3 ∨ t[i].f2 = 0) && (kids t[i]).all (inr t.length)) = true → Ev (fun k => spec_TableOk.l0 k t ((i + 1 : Nat) : Int)) r) → Ev (fun k => spec_TableOk.j1 k t i false) (decide (t[i].f0 = 2 ∨ t[i].f0 = 3 ∨ t[i].f2 = 0) && (kids t[i]).all (inr t.length) && r) := by
    intro h
    apply ev_step
    simp only [spec_TableOk.j1, if_pos c, if_pos c0, Bool.false_eq_true, if_false, rdT_get t i hi]
    by_cases h2 : t[i].f0 = 2
    · simpa [h2] using j2 (fun hx => h (by simpa [h2] using hx))
    · by_cases h3 : t[i].f0 = 3
      · simpa [h3] using j2 (fun hx => h (by simpa [h3] using hx))
      · by_cases hb : t[i].f2 = 0
        · simpa [h2, h3, hb] using j2 (fun hx => h (by simpa [hb] using hx))
        · have hb' : (t[i].f2 != 0) = true := by simpa using hb
          simp only [hb', if_neg h2, if_neg h3]
          simpa [h2, h3, hb] using j2t
  apply ev_step
  simp only [spec_TableOk.l0, if_pos c, if_pos c0, rdT_get t i hi, in_some, Option.bind_some]
  unfold entry
  by_cases hk : 0 ≤ t[i].f0 ∧ t[i].f0 ≤ 5
  · have hk' : t[i].f0 ≥ 0 ∧ t[i].f0 ≤ 5 := hk
    simp only [decide_eq_true hk, decide_eq_true hk', if_true]
    by_cases h0 : t[i].f0 = 0
    · have h1 : ¬ t[i].f0 = 1 := by omega
      simp only [if_pos h0]
      by_cases ha : t[i].f1 < -1
      · simp only [if_pos ha]
        simpa [h0, ha] using j1t
      · simp only [if_neg ha, if_neg h1]
        simpa [h0, ha] using j1 (fun hx => h (by unfold entry; simp only [decide_eq_true hk, hx, Bool.true_and]; simpa [h0, ha] using hx))
    · by_cases h1 : t[i].f0 = 1
      · simp only [if_neg h0, if_pos h1]
        by_cases ha : t[i].f1 = 0
        · simpa [h1, ha] using j1 (fun hx => h (by unfold entry; simp only [decide_eq_true hk, hx, Bool.true_and]; simpa [h1, ha] using hx))
        · have ha' : (t[i].f1 != 0) = true := by simpa using ha
          simp only [ha']
          simpa [h1, ha] using j1t
      · simp only [if_neg h0, if_neg h1]
        simpa [h0, h1] using j1 (fun hx => h (by unfold entry; simp only [decide_eq_true hk, hx, Bool.true_and]; simpa [h0, h1] using hx))
  · have hk' : ¬ (t[i].f0 ≥ 0 ∧ t[i].f0 ≤ 5) := hk
    simp only [decide_eq_false hk, decide_eq_false hk', Bool.false_eq_true, if_false]
    simpa using j1t
theorem impl_in_all (t : List S95) (hn : t.length ≤ 1048576) (ks : List Int) (a b c : Int) (m : Nat) : ∀ j : Nat, j + m = ks.length → ks.length ≤ 2 →
    Ev (fun k => impl_entryOk.l0 k t ks (ks.length : Int) j a b c) ((ks.drop j).all (inr t.length) && decide (b ≥ 0)) := by
  induction m with
  | zero =>
    intro j hj h2
    have c : ¬ (j : Int) < (ks.length : Int) := by omega
    apply ev_step
    simp only [impl_entryOk.l0, if_neg c]
    rw [List.drop_of_length_le (by omega)]
    simpa using ev_const _
  | succ m ih =>
    intro j hj h2
    have c : (j : Int) < (ks.length : Int) := by omega
    have c0 : 0 ≤ (j : Int) := Int.natCast_nonneg j
    apply ev_step
    simp only [impl_entryOk.l0, if_pos c, if_pos c0, wrap_next j (by omega), in_same, in_len t.length hn, Option.bind_some]
    rw [List.drop_eq_getElem_cons (show j < ks.length by omega), List.all_cons, rd_get ks j (by omega)]
    cases hb : inr t.length ks[j]
    · exact ev_const false
    · simpa using ih (j + 1) (by omega) h2
theorem impl_entry (t : List S95) (hn : t.length ≤ 1048576) (e : S95) : Ev (fun k => impl_entryOk.f k t e.f0 e.f1 e.f2) (entry t.length e) := by
  unfold impl_entryOk.f
  simp only [in_same, in_some, Option.bind_some, impl_twoParts.f]
  have jt : ∀ b, b = true → Ev (fun k => impl_entryOk.j0 k t b e.f0 e.f1 e.f2) false := by
    rintro b rfl
    apply ev_step
    simp only [impl_entryOk.j0, if_true]
    exact ev_const false
  by_cases hk : 0 ≤ e.f0 ∧ e.f0 ≤ 5
  · have hk' : e.f0 ≥ 0 ∧ e.f0 ≤ 5 := hk
    simp only [decide_eq_true hk', if_true]
    have j1 : Ev (fun k => impl_entryOk.j1 k t e.f0 e.f1 e.f2) ((kids e).all (inr t.length) && decide (e.f1 ≥ 0)) := by
      apply ev_step
      simp only [impl_entryOk.j1]
      exact ev_bind (impl_kids e hk) (by simpa using impl_in_all t hn (kids e) e.f0 e.f1 e.f2 (kids e).length 0 (by omega) (kids_two _))
    have j0 : ∀ b, b = false → (e.f0 = 2 ∨ e.f0 = 3 ∨ e.f2 = 0) → Ev (fun k => impl_entryOk.j0 k t b e.f0 e.f1 e.f2) (entry t.length e) := by
      rintro b rfl hb
      apply ev_step
      simp only [impl_entryOk.j0, Bool.false_eq_true, if_false]
      unfold entry
      rw [decide_eq_true hk, decide_eq_true hb]
      by_cases h1 : e.f0 = 1
      · simp only [if_pos h1]
        by_cases ha : e.f1 = 0
        · simpa [h1, ha, kids] using ev_const true
        · have ha' : (e.f1 == 0) = false := by simpa using ha
          simp only [ha']
          simpa [h1, ha, kids] using ev_const false
      · simp only [if_neg h1]
        by_cases h0 : e.f0 = 0
        · simp only [if_pos h0]
          by_cases ha : e.f1 = -1
          · simp only [if_pos ha]
            simpa [h0, ha, kids] using ev_const true
          · simp only [if_neg ha]
            refine ev_eq j1 ?_
            by_cases hp : e.f1 ≥ 0
            · simp [h0, hp, kids, show ¬ e.f1 < -1 by omega]
            · simp [h0, hp, kids, show e.f1 < -1 by omega]
        · simp only [if_neg h0]
          refine ev_eq j1 ?_
          have hc : e.f0 = 2 ∨ e.f0 = 3 ∨ e.f0 = 4 ∨ e.f0 = 5 := by omega
          rcases hc with h | h | h | h <;> simp [h, kids, inr] <;> intros <;> omega
    by_cases h2 : e.f0 = 2
    · simp only [if_pos h2, Option.bind_some, if_true]
      exact j0 _ rfl (Or.inl h2)
    · simp only [if_neg h2, Option.bind_some]
      by_cases h3 : e.f0 = 3
      · simp only [h3, beq_self_eq_true, if_true]
        have := j0 _ rfl (Or.inr (Or.inl h3))
        rw [h3] at this
        exact this
      · have h3' : (e.f0 == 3) = false := beq_eq_false_iff_ne.2 h3
        simp only [h3', Bool.false_eq_true, if_false]
        by_cases hb : e.f2 = 0
        · exact j0 _ (by simp [hb]) (Or.inr (Or.inr hb))
        · refine ev_eq (jt _ (by simp [hb])) ?_
          unfold entry
          simp [h2, h3, hb]
  · have hk' : ¬ (e.f0 ≥ 0 ∧ e.f0 ≤ 5) := hk
    simp only [decide_eq_false hk', Bool.false_eq_true, if_false]
    refine ev_eq (jt _ rfl) ?_
    unfold entry
    rw [decide_eq_false hk]
    rfl

theorem rdb_get (g : List Bool) (i : Nat) (h : i < g.length) : rdOf false g (i : Int) = g[i] := by
  unfold rdOf
  simp [List.getD_eq_getElem?_getD, List.getElem?_eq_getElem h]
/-- is all done that an entry leads to? -/
def ready (g : List Bool) (ks : List Int) : Bool := ks.all fun x => rdOf false g x
def sweep1 (t : List S95) (g : List Bool) (i : Nat) : List Bool := g.set i (rdOf false g i || ready g (kids (rd_T95 t i)))
def sweep (t : List S95) : Nat → Nat → List Bool → List Bool
  | 0, _, g => g
  | m + 1, i, g => sweep t m (i + 1) (sweep1 t g i)
def sweeps (t : List S95) : Nat → List Bool → List Bool
  | 0, g => g
  | m + 1, g => sweeps t m (sweep t t.length 0 g)
theorem sweep1_len (t : List S95) (g : List Bool) (i : Nat) : (sweep1 t g i).length = g.length := by unfold sweep1; rw [List.length_set]
theorem sweep_len (t : List S95) (m : Nat) : ∀ i g, (sweep t m i g).length = g.length := by
  induction m with
  | zero => intro i g; rfl
  | succ m ih => intro i g; rw [sweep, ih, sweep1_len]
/-- TableOk, told once for both. -/
def entries (t : List S95) : Bool := t.all (entry t.length)
def table (t : List S95) : Bool := decide (t.length ≤ 40) && (entries t && (sweeps t t.length (List.replicate t.length false)).all id)
theorem spec_ready (t : List S95) (g : List Bool) (p : Int) (i : Nat) (ks : List Int) {r : Bool} (hi : i < g.length) (hg : g.length ≤ 1048576) (hks : ∀ x ∈ ks, 0 ≤ x ∧ x < g.length) (m : Nat) : ∀ (j : Nat) (b : Bool), j + m = ks.length → ks.length ≤ 2 →
    Ev (fun k => spec_TableOk.l3 k t (g.set i (rdOf false g i || (b && ready g (ks.drop j)))) p ((i + 1 : Nat) : Int)) r → Ev (fun k => spec_TableOk.l4 k t g p i ks b j) r := by
  have ci : (i : Int) < (g.length : Int) := by omega
  have ci0 : 0 ≤ (i : Int) := Int.natCast_nonneg i
  induction m with
  | zero =>
    intro j b hj h2 h
    have c : ¬ (j : Int) < (ks.length : Int) := by omega
    rw [List.drop_of_length_le (by omega)] at h
    apply ev_step
    simp only [spec_TableOk.l4, if_neg c, if_pos ci, if_pos ci0, wrap_next i (by omega), Int.toNat_natCast]
    cases hb : rdOf false g (i : Int)
    · simpa [hb, ready] using h
    · simpa [hb, ready] using h
  | succ m ih =>
    intro j b hj h2 h
    have c : (j : Int) < (ks.length : Int) := by omega
    have c0 : 0 ≤ (j : Int) := Int.natCast_nonneg j
    have hj' : j < ks.length := by omega
    have hx := hks ks[j] (List.getElem_mem hj')
    apply ev_step
    simp only [spec_TableOk.l4, if_pos c, if_pos c0, wrap_next j (by omega), rd_get ks j hj', if_pos hx.1, if_pos hx.2]
    rw [List.drop_eq_getElem_cons hj'] at h
    cases b
    · simp only [Bool.false_eq_true, if_false]
      exact ih (j + 1) false (by omega) h2 (by simpa using h)
    · simp only [if_true]
      refine ih (j + 1) _ (by omega) h2 ?_
      have e : (true && ready g (ks[j] :: ks.drop (j + 1))) = (rdOf false g ks[j] && ready g (ks.drop (j + 1))) := rfl
      rw [← e]
      exact h
theorem spec_sweep (t : List S95) (hn : t.length ≤ 1048576) (he : entries t = true) (p : Nat) (hp : p < 1048576) {r : Bool} (m : Nat) : ∀ (i : Nat) (g : List Bool), g.length = t.length → i + m = t.length →
    Ev (fun k => spec_TableOk.l2 k t (sweep t m i g) ((p + 1 : Nat) : Int)) r → Ev (fun k => spec_TableOk.l3 k t g p i) r := by
  induction m with
  | zero =>
    intro i g hg hi h
    have c : ¬ (i : Int) < (t.length : Int) := by omega
    apply ev_step
    simp only [spec_TableOk.l3, if_neg c, wrap_next p (by omega)]
    exact h
  | succ m ih =>
    intro i g hg hi h
    have c : (i : Int) < (t.length : Int) := by omega
    have c0 : 0 ≤ (i : Int) := Int.natCast_nonneg i
    have hi' : i < t.length := by omega
    apply ev_step
    simp only [spec_TableOk.l3, if_pos c, if_pos c0]
    refine ev_bind (spec_kids _) ?_
    have hin : ∀ x ∈ kids (rd_T95 t (i : Int)), 0 ≤ x ∧ x < (g.length : Int) := by
      intro x hx
      rw [rdT_get t i hi'] at hx
      have := List.all_eq_true.1 he t[i] (List.getElem_mem hi')
      unfold entry at this
      simp only [Bool.and_eq_true] at this
      have := List.all_eq_true.1 this.2 x hx
      unfold inr at this
      rw [hg]
      exact of_decide_eq_true this
    refine spec_ready t g p i _ (by omega) (by omega) hin (kids (rd_T95 t (i : Int))).length 0 true (by omega) (kids_two _) ?_
    exact ih (i + 1) _ (by rw [List.length_set]; exact hg) (by omega) (by simpa [sweep, sweep1] using h)
theorem spec_last (t : List S95) (hn : t.length ≤ 1048576) (g : List Bool) (hg : g.length = t.length) (m : Nat) : ∀ i : Nat, i + m = t.length → Ev (fun k => spec_TableOk.l5 k t g i) ((g.drop i).all id) := by
  induction m with
  | zero =>
    intro i hi
    have c : ¬ (i : Int) < (t.length : Int) := by omega
    apply ev_step
    simp only [spec_TableOk.l5, if_neg c]
    rw [List.drop_of_length_le (by omega)]
    exact ev_const true
  | succ m ih =>
    intro i hi
    have c : (i : Int) < (t.length : Int) := by omega
    have c1 : (i : Int) < (g.length : Int) := by omega
    have c0 : 0 ≤ (i : Int) := Int.natCast_nonneg i
    apply ev_step
    simp only [spec_TableOk.l5, if_pos c, if_pos c1, if_pos c0, wrap_next i (by omega), rdb_get g i (by omega)]
    rw [List.drop_eq_getElem_cons (show i < g.length by omega), List.all_cons]
    cases hb : g[i]
    · exact ev_const false
    · simpa using ih (i + 1) (by omega)
theorem spec_sweeps (t : List S95) (hn : t.length ≤ 1048576) (he : entries t = true) (m : Nat) : ∀ (p : Nat) (g : List Bool), g.length = t.length → p + m = t.length →
    Ev (fun k => spec_TableOk.l2 k t g p) ((sweeps t m g).all id) := by
  induction m with
  | zero =>
    intro p g hg hp
    have c : ¬ (p : Int) < (t.length : Int) := by omega
    apply ev_step
    simp only [spec_TableOk.l2, if_neg c]
    simpa [sweeps] using spec_last t hn g hg t.length 0 (by omega)
  | succ m ih =>
    intro p g hg hp
    have c : (p : Int) < (t.length : Int) := by omega
    apply ev_step
    simp only [spec_TableOk.l2, if_pos c]
    exact spec_sweep t hn he p (by omega) t.length 0 g hg (by omega) (ih (p + 1) _ (by rw [sweep_len]; exact hg) (by omega))
theorem spec_entries (t : List S95) (hn : t.length ≤ 1048576) {q : Bool} (hq : entries t = true → Ev (fun k => spec_TableOk.l0 k t (t.length : Int)) q) (m : Nat) : ∀ i : Nat, i + m = t.length → (∀ j (hj : j < t.length), j < i → entry t.length t[j] = true) →
    Ev (fun k => spec_TableOk.l0 k t i) (entries t && q) := by
  induction m with
  | zero =>
    intro i hi h
    have he : entries t = true := by
      refine List.all_eq_true.2 fun x hx => ?_
      obtain ⟨j, hj, rfl⟩ := List.getElem_of_mem hx
      exact h j hj (by omega)
    obtain rfl : i = t.length := by omega
    rw [he]
    exact hq he
  | succ m ih =>
    intro i hi h
    have hi' : i < t.length := by omega
    cases hb : entry t.length t[i]
    · have he : entries t = false := by
        refine Bool.eq_false_iff.2 fun h => ?_
        have := List.all_eq_true.1 h t[i] (List.getElem_mem hi')
        rw [hb] at this
        cases this
      rw [he]
      have := spec_entry (r := true) t hn i hi' (fun h => by rw [hb] at h; cases h)
      rw [hb] at this
      simpa using this
    · have h2 := ih (i + 1) (by omega) (fun j hj hji => by
        by_cases e : j = i
        · subst e; exact hb
        · exact h j hj (by omega))
      have := spec_entry t hn i hi' (fun _ => h2)
      rw [hb] at this
      simpa using this
theorem spec_table (t : List S95) (hn : t.length ≤ 1048576) : Ev (fun k => spec_TableOk.f k t) (table t) := by
  unfold spec_TableOk.f table
  by_cases h : (t.length : Int) > 40
  · have h2 : ¬ t.length ≤ 40 := by omega
    simp only [if_pos h, decide_eq_false h2]
    exact ev_const false
  · have h2 : t.length ≤ 40 := by omega
    simp only [if_neg h, decide_eq_true h2, Bool.true_and]
    refine spec_entries t hn (fun he => ?_) t.length 0 (by omega) (fun j hj hji => by omega)
    have c : ¬ (t.length : Int) < (t.length : Int) := by omega
    have c0 : 0 ≤ (t.length : Int) := Int.natCast_nonneg _
    have c1 : t.length ≤ 281474976710656 := by omega
    apply ev_step
    simp only [spec_TableOk.l0, if_neg c, if_pos c0, Int.toNat_natCast, if_pos c1]
    exact spec_sweeps t hn he t.length 0 _ (by simp) (by omega)
theorem impl_ready (t : List S95) (g : List Bool) (p q : Int) (i : Nat) (ks : List Int) {r : Bool} (hi : i < g.length) (hg : g.length ≤ 1048576) (hks : ∀ x ∈ ks, 0 ≤ x ∧ x < g.length) (m : Nat) : ∀ (j : Nat) (b : Bool), j + m = ks.length → ks.length ≤ 2 →
    Ev (fun k => impl_TableOk.l2 k t (g.set i (rdOf false g i || (b && ready g (ks.drop j)))) p q t (t.length : Int) ((i + 1 : Nat) : Int)) r → Ev (fun k => impl_TableOk.l3 k t g i b p q t (t.length : Int) i ks (ks.length : Int) j) r := by
  have ci : (i : Int) < (g.length : Int) := by omega
  have ci0 : 0 ≤ (i : Int) := Int.natCast_nonneg i
  induction m with
  | zero =>
    intro j b hj h2 h
    have c : ¬ (j : Int) < (ks.length : Int) := by omega
    rw [List.drop_of_length_le (by omega)] at h
    apply ev_step
    simp only [impl_TableOk.l3, if_neg c, if_pos ci, if_pos ci0, wrap_next i (by omega), Int.toNat_natCast]
    cases hb : rdOf false g (i : Int)
    · simpa [hb, ready] using h
    · simpa [hb, ready] using h
  | succ m ih =>
    intro j b hj h2 h
    have c : (j : Int) < (ks.length : Int) := by omega
    have c0 : 0 ≤ (j : Int) := Int.natCast_nonneg j
    have hj' : j < ks.length := by omega
    have hx := hks ks[j] (List.getElem_mem hj')
    apply ev_step
    simp only [impl_TableOk.l3, if_pos c, if_pos c0, wrap_next j (by omega), rd_get ks j hj', if_pos hx.1, if_pos hx.2]
    rw [List.drop_eq_getElem_cons hj'] at h
    cases b
    · simp only [Bool.false_eq_true, if_false]
      exact ih (j + 1) false (by omega) h2 (by simpa using h)
    · simp only [if_true]
      refine ih (j + 1) _ (by omega) h2 ?_
      have e : (true && ready g (ks[j] :: ks.drop (j + 1))) = (rdOf false g ks[j] && ready g (ks.drop (j + 1))) := rfl
      rw [← e]
      exact h
theorem entry_kinds (n : Nat) (e : S95) (h : entry n e = true) : (0 ≤ e.f0 ∧ e.f0 ≤ 5) ∧ ∀ x ∈ kids e, 0 ≤ x ∧ x < n := by
  unfold entry at h
  simp only [Bool.and_eq_true] at h
  refine ⟨of_decide_eq_true h.1.1.1.1, fun x hx => ?_⟩
  have := List.all_eq_true.1 h.2 x hx
  exact of_decide_eq_true this
theorem impl_sweep (t : List S95) (hn : t.length ≤ 1048576) (he : entries t = true) (q : Int) (p : Nat) (hp : p < 1048576) {r : Bool} (m : Nat) : ∀ (i : Nat) (g : List Bool), g.length = t.length → i + m = t.length →
    Ev (fun k => impl_TableOk.l1 k t (sweep t m i g) q ((p + 1 : Nat) : Int)) r → Ev (fun k => impl_TableOk.l2 k t g q p t (t.length : Int) i) r := by
  induction m with
  | zero =>
    intro i g hg hi h
    have c : ¬ (i : Int) < (t.length : Int) := by omega
    apply ev_step
    simp only [impl_TableOk.l2, if_neg c, wrap_next p (by omega)]
    exact h
  | succ m ih =>
    intro i g hg hi h
    have c : (i : Int) < (t.length : Int) := by omega
    have c0 : 0 ≤ (i : Int) := Int.natCast_nonneg i
    have hi' : i < t.length := by omega
    have hen := entry_kinds _ _ (List.all_eq_true.1 he t[i] (List.getElem_mem hi'))
    apply ev_step
    simp only [impl_TableOk.l2, if_pos c, if_pos c0]
    refine ev_bind (impl_kids _ (by rw [rdT_get t i hi']; exact hen.1)) ?_
    refine impl_ready t g q p i _ (by omega) (by omega) (by rw [rdT_get t i hi', hg]; exact hen.2) (kids (rd_T95 t (i : Int))).length 0 true (by omega) (kids_two _) ?_
    exact ih (i + 1) _ (by rw [List.length_set]; exact hg) (by omega) (by simpa [sweep, sweep1] using h)
theorem impl_last (g : List Bool) (hn : g.length ≤ 1048576) (m : Nat) : ∀ i : Nat, i + m = g.length → Ev (fun k => impl_TableOk.l4 k g (g.length : Int) i) ((g.drop i).all id) := by
  induction m with
  | zero =>
    intro i hi
    have c : ¬ (i : Int) < (g.length : Int) := by omega
    apply ev_step
    simp only [impl_TableOk.l4, if_neg c]
    rw [List.drop_of_length_le (by omega)]
    exact ev_const true
  | succ m ih =>
    intro i hi
    have c : (i : Int) < (g.length : Int) := by omega
    have c0 : 0 ≤ (i : Int) := Int.natCast_nonneg i
    apply ev_step
    simp only [impl_TableOk.l4, if_pos c, if_pos c0, wrap_next i (by omega), rdb_get g i (by omega)]
    rw [List.drop_eq_getElem_cons (show i < g.length by omega), List.all_cons]
    cases hb : g[i]
    · exact ev_const false
    · simpa using ih (i + 1) (by omega)
theorem impl_sweeps (t : List S95) (hn : t.length ≤ 1048576) (he : entries t = true) (m : Nat) : ∀ (p : Nat) (g : List Bool), g.length = t.length → p + m = t.length →
    Ev (fun k => impl_TableOk.l1 k t g (t.length : Int) p) ((sweeps t m g).all id) := by
  induction m with
  | zero =>
    intro p g hg hp
    have c : ¬ (p : Int) < (t.length : Int) := by omega
    apply ev_step
    simp only [impl_TableOk.l1, if_neg c]
    simpa [sweeps] using impl_last g (by omega) g.length 0 (by omega)
  | succ m ih =>
    intro p g hg hp
    have c : (p : Int) < (t.length : Int) := by omega
    apply ev_step
    simp only [impl_TableOk.l1, if_pos c]
    exact impl_sweep t hn he _ p (by omega) t.length 0 g hg (by omega) (ih (p + 1) _ (by rw [sweep_len]; exact hg) (by omega))
theorem impl_entries (t : List S95) (hn : t.length ≤ 1048576) {q : Bool} (hq : entries t = true → Ev (fun k => impl_TableOk.l0 k t t (t.length : Int) (t.length : Int)) q) (m : Nat) : ∀ i : Nat, i + m = t.length → (∀ j (hj : j < t.length), j < i → entry t.length t[j] = true) →
    Ev (fun k => impl_TableOk.l0 k t t (t.length : Int) i) (entries t && q) := by
  induction m with
  | zero =>
    intro i hi h
    have he : entries t = true := by
      refine List.all_eq_true.2 fun x hx => ?_
      obtain ⟨j, hj, rfl⟩ := List.getElem_of_mem hx
      exact h j hj (by omega)
    obtain rfl : i = t.length := by omega
    rw [he]
    exact hq he
  | succ m ih =>
    intro i hi h
    have hi' : i < t.length := by omega
    have c : (i : Int) < (t.length : Int) := by omega
    have c0 : 0 ≤ (i : Int) := Int.natCast_nonneg i
    apply ev_step
    simp only [impl_TableOk.l0, if_pos c, if_pos c0, rdT_get t i hi', wrap_next i (by omega)]
    refine ev_bind (impl_entry t hn t[i]) ?_
    cases hb : entry t.length t[i]
    · have he : entries t = false := by
        refine Bool.eq_false_iff.2 fun h => ?_
        have := List.all_eq_true.1 h t[i] (List.getElem_mem hi')
        rw [hb] at this
        cases this
      rw [he]
      exact ev_const false
    · have h2 := ih (i + 1) (by omega) (fun j hj hji => by
        by_cases e : j = i
        · subst e; exact hb
        · exact h j hj (by omega))
      simpa using h2
theorem impl_table (t : List S95) (hn : t.length ≤ 1048576) : Ev (fun k => impl_TableOk.f k t) (table t) := by
  unfold impl_TableOk.f table
  by_cases h : (t.length : Int) > 40
  · have h2 : ¬ t.length ≤ 40 := by omega
    refine ev_eq (impl_entries t hn (q := false) (fun he => ?_) t.length 0 (by omega) (fun j hj hji => by omega)) (by simp [h2])
    have c : ¬ (t.length : Int) < (t.length : Int) := by omega
    apply ev_step
    simp only [impl_TableOk.l0, if_neg c, if_pos h]
    exact ev_const false
  · have h2 : t.length ≤ 40 := by omega
    simp only [decide_eq_true h2, Bool.true_and]
    refine impl_entries t hn (fun he => ?_) t.length 0 (by omega) (fun j hj hji => by omega)
    have c : ¬ (t.length : Int) < (t.length : Int) := by omega
    have c0 : 0 ≤ (t.length : Int) := Int.natCast_nonneg _
    have c1 : t.length ≤ 281474976710656 := by omega
    apply ev_step
    simp only [impl_TableOk.l0, if_neg c, if_neg h, if_pos c0, Int.toNat_natCast, if_pos c1]
    exact impl_sweeps t hn he t.length 0 _ (by simp) (by omega)

theorem FnExactTableOk : Pure := by
  intro l ⟨hl, _⟩
  refine Ev.rounds ?_
  unfold laws_FnExactTableOk.f
  obtain ⟨r, h1, h2⟩ := sz_types l hl
  rw [h1]; simp only [Option.bind_some]
  by_cases z : r < 0
  · simp only [if_pos z]
    exact ev_const true
  · have hn := h2 (by omega)
    have hn' : (l.map cType).length ≤ 1048576 := by simpa using hn
    simp only [if_neg z]
    refine ev_bind (ev_toTypes l hn) (ev_bind (spec_table _ hn') (ev_bind (ev_toTypes l hn) (ev_bind (impl_table _ hn') ?_)))
    simp only [bne_self_eq_false, Bool.false_eq_true, if_false]
    refine ev_bind (ev_toTypes l hn) (ev_bind (ev_eqTypes _ hn') ?_)
    simp only [if_true]
    exact ev_const true

end Go.Proofs.Ytcmoaigneafojaa.Pure
