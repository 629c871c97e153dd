/- IsKey: the program's keys, cut at each space, are the reference's list; both loops ask for one that is the text. -/
import Derived.Test.YtcmoaigneafojaaDoorSayFnExactIsKey
import Derived.Laws.Strings
import Derived.Laws.BitsLemmas
set_option linter.unusedVariables false
set_option linter.unusedSimpArgs false
namespace Go.Proofs.YtcmoaigneafojaaDoor.Pure
open Go.RowKit Go.Proofs.YtcmoaigneafojaaDoor.PFnExactIsKey Go.Proofs.YtcmoaigneafojaaDoorW.PrintWords Go.Proofs.YtcmoaigneafojaaDoorW.PrintLast Go.Proofs.YtcmoaigneafojaaDoor.SayFnExactIsKey

/-- IsKey: the program's keys, cut at each space, are the reference's list; both loops ask for one that is the text. -/
theorem wrap_next (i : Nat) (h : i < 4611686018427387904) : wrap64 ((i : Int) + 1) = ((i + 1 : Nat) : Int) := by unfold wrap64; omega
theorem set_grown {α : Type} {x m : List α} {i : Nat} (hl : x.length = m.length) (h : ∀ j, j < i → x[j]? = m[j]?) (hi : i < m.length) {v : α} (hv : m[i]? = some v) : (x.set i v).length = m.length ∧ ∀ j, j < i + 1 → (x.set i v)[j]? = m[j]? := by
  refine ⟨by rw [List.length_set, hl], fun j hj => ?_⟩
  by_cases e : j = i
  · subst e
    rw [List.getElem?_set_self (by omega), hv]
  · rw [List.getElem?_set_ne (by omega)]
    exact h j (by omega)
theorem all_grown {α : Type} {x m : List α} (hl : x.length = m.length) (h : ∀ j, j < m.length → x[j]? = m[j]?) : x = m := by
  apply List.ext_getElem? ; intro j
  by_cases hj : j < m.length
  · exact h j hj
  · rw [List.getElem?_eq_none (by omega), List.getElem?_eq_none (by omega)]

theorem ev_step {α : Type} {g : Nat → Option α} {r : α} (h : Ev (fun k => g (k + 1)) r) : Ev g r := Ev.step (fun _ => rfl) h
theorem ev_bind {α β : Type} {g : Nat → Option α} {f : Nat → α → Option β} {a : α} {r : β} (h : Ev g a) (k : Ev (fun n => f n a) r) : Ev (fun n => (g n).bind (f n)) r := Ev.bind h k
theorem ev_const {α : Type} (r : α) : Ev (fun _ => some r) r := Ev.now r
theorem ev_at {α : Type} {g : Nat → Option α} {r : α} (n : Nat) (h : ∀ k, n ≤ k → g k = some r) : Ev g r := ⟨n, h⟩
theorem ev_eq {α : Type} {g : Nat → Option α} {r q : α} (h : Ev g r) (e : r = q) : Ev g q := e ▸ h

/-- the words that are keys. -/
def keyList : List ByteArray := [(⟨#[102, 117, 110]⟩ : ByteArray), (⟨#[97, 112, 112]⟩ : ByteArray), (⟨#[108, 101, 116]⟩ : ByteArray), (⟨#[114, 101, 99]⟩ : ByteArray), (⟨#[105, 102]⟩ : ByteArray), (⟨#[97, 100, 100]⟩ : ByteArray), (⟨#[115, 117, 98]⟩ : ByteArray), (⟨#[108, 101, 115, 115]⟩ : ByteArray), (⟨#[115, 97, 109, 101]⟩ : ByteArray), (⟨#[112, 97, 105, 114]⟩ : ByteArray), (⟨#[102, 115, 116]⟩ : ByteArray), (⟨#[115, 110, 100]⟩ : ByteArray), (⟨#[110, 105, 108]⟩ : ByteArray), (⟨#[99, 111, 110, 115]⟩ : ByteArray), (⟨#[109, 97, 116, 99, 104]⟩ : ByteArray), (⟨#[114, 101, 102]⟩ : ByteArray), (⟨#[103, 101, 116]⟩ : ByteArray), (⟨#[115, 101, 116]⟩ : ByteArray), (⟨#[114, 97, 105, 115, 101]⟩ : ByteArray), (⟨#[116, 114, 121]⟩ : ByteArray)]
theorem key_split : strings_Split.f 60 (⟨#[102, 117, 110, 32, 97, 112, 112, 32, 108, 101, 116, 32, 114, 101, 99, 32, 105, 102, 32, 97, 100, 100, 32, 115, 117, 98, 32, 108, 101, 115, 115, 32, 115, 97, 109, 101, 32, 112, 97, 105, 114, 32, 102, 115, 116, 32, 115, 110, 100, 32, 110, 105, 108, 32, 99, 111, 110, 115, 32, 109, 97, 116, 99, 104, 32, 114, 101, 102, 32, 103, 101, 116, 32, 115, 101, 116, 32, 114, 97, 105, 115, 101, 32, 116, 114, 121]⟩ : ByteArray) (⟨#[32]⟩ : ByteArray) = some keyList := by decide +kernel
def isKeyM (s : ByteArray) : Bool := keyList.any fun x => decide (x.toList = s.toList)
theorem rds_get (g : List ByteArray) (i : Nat) (h : i < g.length) : rdOf ByteArray.empty g (i : Int) = g[i] := by
  unfold rdOf
  simp [List.getD_eq_getElem?_getD, List.getElem?_eq_getElem h]
theorem key_loops (s : ByteArray) (L : List ByteArray) (hL : L.length ≤ 1048576) (m : Nat) : ∀ i : Nat, i + m = L.length → Ev (fun k => spec_IsKey.l0 k s L i) ((L.drop i).any fun x => decide (x.toList = s.toList)) ∧ Ev (fun k => impl_IsKey.l0 k s L (L.length : Int) i) ((L.drop i).any fun x => decide (x.toList = s.toList)) := by
  induction m with
  | zero =>
    intro i hi
    have c : ¬ (i : Int) < (L.length : Int) := by omega
    rw [List.drop_of_length_le (by omega)]
    constructor
    · apply ev_step
      simp only [spec_IsKey.l0, if_neg c]
      exact ev_const false
    · apply ev_step
      simp only [impl_IsKey.l0, if_neg c]
      exact ev_const false
  | succ m ih =>
    intro i hi
    have c : (i : Int) < (L.length : Int) := by omega
    have c0 : 0 ≤ (i : Int) := Int.natCast_nonneg i
    have hi' : i < L.length := by omega
    obtain ⟨h1, h2⟩ := ih (i + 1) (by omega)
    rw [List.drop_eq_getElem_cons hi', List.any_cons]
    constructor
    · apply ev_step
      simp only [spec_IsKey.l0, if_pos c, if_pos c0, wrap_next i (by omega), rds_get L i hi']
      by_cases e : L[i].toList = s.toList
      · simp only [if_pos e]
        simpa [e] using ev_const true
      · simp only [if_neg e]
        simpa [e] using h1
    · apply ev_step
      simp only [impl_IsKey.l0, if_pos c, if_pos c0, wrap_next i (by omega), rds_get L i hi']
      by_cases e : L[i].toList = s.toList
      · simp only [if_pos e]
        simpa [e] using ev_const true
      · simp only [if_neg e]
        simpa [e] using h2
theorem spec_isKey (s : ByteArray) : Ev (fun k => spec_IsKey.f k s) (isKeyM s) := by
  have h := (key_loops s keyList (by decide) keyList.length 0 (by decide)).1
  unfold spec_IsKey.f
  simp only [spec_l3Keys.f, Option.bind_some]
  exact h
theorem impl_isKey (s : ByteArray) : Ev (fun k => impl_IsKey.f k s) (isKeyM s) := by
  have h := (key_loops s keyList (by decide) keyList.length 0 (by decide)).2
  unfold impl_IsKey.f
  exact ev_bind (Ev.of (fun k => strings_Split.mono _ _ k) key_split) h

theorem FnExactIsKey : Pure := by
  intro s _
  refine Ev.rounds ?_
  unfold laws_FnExactIsKey.f
  by_cases h : (s.size : Int) > 1048576
  · simp only [if_pos h]
    exact ev_const true
  · simp only [if_neg h]
    refine ev_bind (spec_isKey s) (ev_bind (impl_isKey s) ?_)
    simp only [bne_self_eq_false, Bool.false_eq_true, if_false]
    exact ev_const true

end Go.Proofs.YtcmoaigneafojaaDoor.Pure
