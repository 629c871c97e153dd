/- PureFnExactKeyOf, of the words and walks that the law FnExactKeyOf needs; made by this session's program out of printed texts. -/

import Derived.Test.YtecfpllbilgdmaaDoorVEKeyOfSay
import Derived.Laws.Strings
import Derived.Laws.BitsLemmas
set_option linter.unusedVariables false
set_option linter.unusedSimpArgs false
namespace Go.Proofs.YtecfpllbilgdmaaDoor.Pure
open Go.RowKit Go.Proofs.YtecfpllbilgdmaaDoor.PFnExactKeyOf Go.Proofs.YtecfpllbilgdmaaDoorW.PrintWords Go.Proofs.YtecfpllbilgdmaaDoorW.PrintLast Go.Proofs.YtecfpllbilgdmaaDoor.SayFnExactKeyOf
theorem ev_bind {α β : Type} {g : Nat → Option α} {f : Nat → α → Option β} {a : α} {r : β} (h : Ev g a) (k : Ev (fun n => f n a) r) : Ev (fun n => (g n).bind (f n)) r := Ev.bind h k
theorem ev_const {α : Type} (r : α) : Ev (fun _ => some r) r := Ev.now r
def opWords : List ByteArray := [(⟨#[97, 100, 100]⟩ : ByteArray), (⟨#[115, 117, 98]⟩ : ByteArray), (⟨#[108, 101, 115, 115]⟩ : ByteArray), (⟨#[115, 97, 109, 101]⟩ : ByteArray)]
theorem op_split : strings_Split.f 60 (⟨#[97, 100, 100, 32, 115, 117, 98, 32, 108, 101, 115, 115, 32, 115, 97, 109, 101]⟩ : ByteArray) (⟨#[32]⟩ : ByteArray) = some opWords := by decide +kernel
def kindWords : List ByteArray := [(⟨#[]⟩ : ByteArray), (⟨#[45]⟩ : ByteArray), (⟨#[102, 117, 110]⟩ : ByteArray), (⟨#[97, 112, 112]⟩ : ByteArray), (⟨#[108, 101, 116]⟩ : ByteArray), (⟨#[114, 101, 99]⟩ : ByteArray), (⟨#[105, 102]⟩ : ByteArray), (⟨#[45]⟩ : ByteArray), (⟨#[112, 97, 105, 114]⟩ : ByteArray), (⟨#[102, 115, 116]⟩ : ByteArray), (⟨#[115, 110, 100]⟩ : ByteArray), (⟨#[110, 105, 108]⟩ : ByteArray), (⟨#[99, 111, 110, 115]⟩ : ByteArray), (⟨#[109, 97, 116, 99, 104]⟩ : ByteArray), (⟨#[114, 101, 102]⟩ : ByteArray), (⟨#[103, 101, 116]⟩ : ByteArray), (⟨#[115, 101, 116]⟩ : ByteArray), (⟨#[114, 97, 105, 115, 101]⟩ : ByteArray), (⟨#[116, 114, 121]⟩ : ByteArray)]
theorem kind_split : strings_Split.f 60 (⟨#[32, 45, 32, 102, 117, 110, 32, 97, 112, 112, 32, 108, 101, 116, 32, 114, 101, 99, 32, 105, 102, 32, 45, 32, 112, 97, 105, 114, 32, 102, 115, 116, 32, 115, 110, 100, 32, 110, 105, 108, 32, 99, 111, 110, 115, 32, 109, 97, 116, 99, 104, 32, 114, 101, 102, 32, 103, 101, 116, 32, 115, 101, 116, 32, 114, 97, 105, 115, 101, 32, 116, 114, 121]⟩ : ByteArray) (⟨#[32]⟩ : ByteArray) = some kindWords := by decide +kernel
theorem key_at (k : Fin 17) (hk : k.val ≠ 5) (b c d e : Int) (n1 n2 : ByteArray) : ∃ r, spec_KeyOf.f ((k.val : Int) + 3) b c d e n1 n2 = some r ∧ Ev (fun n => impl_KeyOf.f n ((k.val : Int) + 3) b c d e n1 n2) r := by
 have h8 : ¬ ((k.val : Int) + 3 = 8) := by omega
 have kp : impl_keyPlace.f ((k.val : Int) + 3) = some ((k.val : Int) + 2) := by
  unfold impl_keyPlace.f
  rw [if_neg (by omega)]
  congr 1
  unfold wrap64
  omega
 have c2 : (k.val : Int) + 2 < (kindWords.length : Int) := by
  have : kindWords.length = 19 := rfl
  omega
 have c0 : 0 ≤ (k.val : Int) + 2 := by omega
 have e1 : Ev (fun n => impl_KeyOf.f n ((k.val : Int) + 3) b c d e n1 n2) (rdOf ByteArray.empty kindWords ((k.val : Int) + 2)) := by
  unfold impl_KeyOf.f impl_in.f
  have hin : (k.val : Int) + 3 ≥ 1 := by omega
  have hin2 : (k.val : Int) + 3 ≤ 19 := by omega
  simp only [if_neg h8, if_pos hin, decide_eq_true hin2, Option.bind_some, if_true, kp]
  refine ev_bind (Ev.of (fun k => strings_Split.mono _ _ k) kind_split) ?_
  simp only [if_pos c0, if_pos c2]
  exact ev_const _
 refine ⟨_, ?_, e1⟩
 unfold spec_KeyOf.f spec_l1In.f
 have hin : (k.val : Int) + 3 ≥ 3 := by omega
 have hin2 : (k.val : Int) + 3 ≤ 19 := by omega
 have w : wrap64 ((k.val : Int) + 3 - 3) = (k.val : Int) := by unfold wrap64; omega
 simp only [if_neg h8, if_pos hin, decide_eq_true hin2, Option.bind_some, if_true, w]
 clear w hin hin2 e1 c0 c2 kp h8
 revert k
 decide +kernel
theorem key_both (a b c d e : Int) (n1 n2 : ByteArray) : ∃ r, spec_KeyOf.f a b c d e n1 n2 = some r ∧ Ev (fun k => impl_KeyOf.f k a b c d e n1 n2) r := by
 by_cases h8 : a = 8
 ·subst h8
  unfold spec_KeyOf.f impl_KeyOf.f spec_l1In.f impl_in.f
  by_cases h0 : e ≥ 0
  ·by_cases h3 : e ≤ 3
   ·have l4 : e < ((opWords.length : Nat) : Int) := by
     have : opWords.length = 4 := rfl
     omega
    have g0 : 0 ≤ e := h0
    refine ⟨rdOf ByteArray.empty opWords e, ?_, ?_⟩
    ·simp only [if_true, if_pos h0, decide_eq_true h3, Option.bind_some, if_pos g0]
     exact if_pos l4
    ·simp only [if_true, if_pos h0, decide_eq_true h3, Option.bind_some]
     refine ev_bind (Ev.of (fun k => strings_Split.mono _ _ k) op_split) ?_
     simp only [if_pos g0, if_pos l4]
     exact ev_const _
   ·refine ⟨⟨#[]⟩, ?_, ?_⟩
    ·simp only [if_true, if_pos h0, decide_eq_false h3, Option.bind_some, Bool.false_eq_true, if_false]
    ·simp only [if_true, if_pos h0, decide_eq_false h3, Option.bind_some, Bool.false_eq_true, if_false]
     exact ev_const _
  ·refine ⟨⟨#[]⟩, ?_, ?_⟩
   ·simp only [if_true, if_neg h0, Option.bind_some, Bool.false_eq_true, if_false]
   ·simp only [if_true, if_neg h0, Option.bind_some, Bool.false_eq_true, if_false]
    exact ev_const _
 ·by_cases h3 : 3 ≤ a ∧ a ≤ 19
  ·have := key_at ⟨(a - 3).toNat, by omega⟩ (by simp only; omega) b c d e n1 n2
   have ea : (((⟨(a - 3).toNat, by omega⟩ : Fin 17).val : Nat) : Int) + 3 = a := by simp only; omega
   rw [ea] at this
   exact this
  ·refine ⟨⟨#[]⟩, ?_, ?_⟩
   ·unfold spec_KeyOf.f spec_l1In.f
    rw [if_neg h8]
    by_cases g : a ≥ 3
    ·have g2 : ¬ a ≤ 19 := fun q => h3 ⟨g, q⟩
     simp only [if_pos g, decide_eq_false g2, Option.bind_some, Bool.false_eq_true, if_false]
    ·simp only [if_neg g, Option.bind_some, Bool.false_eq_true, if_false]
   ·unfold impl_KeyOf.f impl_in.f
    simp only [if_neg h8]
    by_cases g : a ≥ 1
    ·by_cases g2 : a ≤ 19
     ·have g3 : a ≤ 2 := by omega
      have kp : impl_keyPlace.f a = some 0 := by
       unfold impl_keyPlace.f
       rw [if_pos g3]
      have c0 : (0 : Int) ≤ 0 := by omega
      have c1 : (0 : Int) < ((kindWords.length : Nat) : Int) := by
       have : kindWords.length = 19 := rfl
       omega
      simp only [if_pos g, decide_eq_true g2, Option.bind_some, if_true, kp]
      refine ev_bind (Ev.of (fun k => strings_Split.mono _ _ k) kind_split) ?_
      simp only [if_pos c0, if_pos c1]
      exact ev_const _
     ·simp only [if_pos g, decide_eq_false g2, Option.bind_some, Bool.false_eq_true, if_false]
      exact ev_const _
    ·simp only [if_neg g, Option.bind_some, Bool.false_eq_true, if_false]
     exact ev_const _
theorem FnExactKeyOf : Pure := by
 intro a b c d e n1 n2 h0 h1 h2 h3 h4 h5 h6
 refine Ev.rounds ?_
 unfold laws_FnExactKeyOf.f
 obtain ⟨r, s1, s2⟩ := key_both a b c d e n1 n2
 obtain ⟨t, ht⟩ : ∃ t, laws_szNode.f a b c d e n1 n2 1048576 = some t := by
  unfold laws_szNode.f
  repeat' split
  all_goals exact ⟨_, rfl⟩
 simp only [ht, Option.bind_some]
 by_cases q : t < 0
 ·simp only [if_pos q]
  exact ev_const _
 ·simp only [if_neg q, laws_toNode.f, Option.bind_some, s1]
  refine ev_bind s2 ?_
  simp only [if_true]
  exact ev_const _
end Go.Proofs.YtecfpllbilgdmaaDoor.Pure

