/- CodeWord: the program's words, cut at each space, are the reference's list; the kind picks one of them. -/
import Derived.Test.YtcmoaigneafojaaDoorSayFnExactCodeWord
import Derived.Laws.Strings
import Derived.Laws.BitsLemmas
set_option linter.unusedVariables false
set_option linter.unusedSimpArgs false
namespace Go.Proofs.YtcmoaigneafojaaDoor.Pure
open Go.RowKit Go.Proofs.YtcmoaigneafojaaDoor.PFnExactCodeWord Go.Proofs.YtcmoaigneafojaaDoorW.PrintWords Go.Proofs.YtcmoaigneafojaaDoorW.PrintLast Go.Proofs.YtcmoaigneafojaaDoor.SayFnExactCodeWord

/-- CodeWord: the program's words, cut at each space, are the reference's list; the kind picks one of them. -/
theorem wrap_next (i : Nat) (h : i < 4611686018427387904) : wrap64 ((i : Int) + 1) = ((i + 1 : Nat) : Int) := by unfold wrap64; omega
theorem set_grown {α : Type} {x m : List α} {i : Nat} (hl : x.length = m.length) (h : ∀ j, j < i → x[j]? = m[j]?) (hi : i < m.length) {v : α} (hv : m[i]? = some v) : (x.set i v).length = m.length ∧ ∀ j, j < i + 1 → (x.set i v)[j]? = m[j]? := by
  refine ⟨by rw [List.length_set, hl], fun j hj => ?_⟩
  by_cases e : j = i
  · subst e
    rw [List.getElem?_set_self (by omega), hv]
  · rw [List.getElem?_set_ne (by omega)]
    exact h j (by omega)
theorem all_grown {α : Type} {x m : List α} (hl : x.length = m.length) (h : ∀ j, j < m.length → x[j]? = m[j]?) : x = m := by
  apply List.ext_getElem? ; intro j
  by_cases hj : j < m.length
  · exact h j hj
  · rw [List.getElem?_eq_none (by omega), List.getElem?_eq_none (by omega)]

theorem ev_step {α : Type} {g : Nat → Option α} {r : α} (h : Ev (fun k => g (k + 1)) r) : Ev g r := Ev.step (fun _ => rfl) h
theorem ev_bind {α β : Type} {g : Nat → Option α} {f : Nat → α → Option β} {a : α} {r : β} (h : Ev g a) (k : Ev (fun n => f n a) r) : Ev (fun n => (g n).bind (f n)) r := Ev.bind h k
theorem ev_const {α : Type} (r : α) : Ev (fun _ => some r) r := Ev.now r
theorem ev_at {α : Type} {g : Nat → Option α} {r : α} (n : Nat) (h : ∀ k, n ≤ k → g k = some r) : Ev g r := ⟨n, h⟩
theorem ev_eq {α : Type} {g : Nat → Option α} {r q : α} (h : Ev g r) (e : r = q) : Ev g q := e ▸ h

theorem word_split : strings_Split.f 60 (⟨#[98, 97, 100, 32, 118, 97, 108, 117, 101, 32, 114, 97, 105, 115, 101, 100, 32, 102, 117, 101, 108, 32, 115, 116, 117, 99, 107]⟩ : ByteArray) (⟨#[32]⟩ : ByteArray) = some [(⟨#[98, 97, 100]⟩ : ByteArray), (⟨#[118, 97, 108, 117, 101]⟩ : ByteArray), (⟨#[114, 97, 105, 115, 101, 100]⟩ : ByteArray), (⟨#[102, 117, 101, 108]⟩ : ByteArray), (⟨#[115, 116, 117, 99, 107]⟩ : ByteArray)] := by decide +kernel
theorem FnExactCodeWord : Pure := by
  intro a _
  refine Ev.rounds ?_
  unfold laws_FnExactCodeWord.f spec_CodeWord.f impl_CodeWord.f spec_l1In.f impl_in.f
  by_cases h0 : a ≥ 0
  · by_cases h4 : a ≤ 4
    · have c : a < (([(⟨#[98, 97, 100]⟩ : ByteArray), (⟨#[118, 97, 108, 117, 101]⟩ : ByteArray), (⟨#[114, 97, 105, 115, 101, 100]⟩ : ByteArray), (⟨#[102, 117, 101, 108]⟩ : ByteArray), (⟨#[115, 116, 117, 99, 107]⟩ : ByteArray)] : List ByteArray).length : Int) := by
        simp only [List.length_cons, List.length_nil]
        omega
      have c0 : 0 ≤ a := h0
      simp only [if_pos h0, decide_eq_true h4, if_true, Option.bind_some, if_pos c0, if_pos c]
      refine ev_bind (Ev.of (fun k => ?_) (k := 60) (by rw [word_split]; simp only [Option.bind_some, if_pos c0, if_pos c]; rfl)) ?_
      · refine LeO.bind (strings_Split.mono _ _ k) (fun _ => LeO.refl _)
      · simp only [if_true]
        exact ev_const true
    · simp only [if_pos h0, decide_eq_false h4, Bool.false_eq_true, if_false, Option.bind_some]
      simp only [if_true]
      exact ev_const true
  · simp only [if_neg h0, Bool.false_eq_true, if_false, Option.bind_some]
    simp only [if_true]
    exact ev_const true

end Go.Proofs.YtcmoaigneafojaaDoor.Pure
