/- PureFnExactShowVal, of the words and walks that the law FnExactShowVal needs; made by this session's program out of printed texts. -/

import Derived.Test.YtlhofeikcaejpaaDoorVEShowValSay
import Derived.Laws.Strings
import Derived.Laws.BitsLemmas
set_option linter.unusedVariables false
set_option linter.unusedSimpArgs false
namespace Go.Proofs.YtlhofeikcaejpaaDoor.Pure
open Go.RowKit Go.Proofs.YtlhofeikcaejpaaDoor.PFnExactShowVal Go.Proofs.YtlhofeikcaejpaaDoorW.PrintWords Go.Proofs.YtlhofeikcaejpaaDoorW.PrintLast Go.Proofs.YtlhofeikcaejpaaDoor.SayFnExactShowVal
theorem wrap_next (i:Nat) (h:i < 4611686018427387904):wrap64 ((i:Int) + 1) = ((i + 1:Nat):Int):= by unfold wrap64; omega
theorem set_grown {α:Type} {x m:List α} {i:Nat} (hl:x.length = m.length) (h:∀ j,j < i -> x[j]? = m[j]?) (hi:i < m.length) {v:α} (hv:m[i]? = some v):(x.set i v).length = m.length /\ ∀ j,j < i + 1 -> (x.set i v)[j]? = m[j]?:= by
 refine ⟨by rw [List.length_set,hl],fun j hj => ?_⟩
 by_cases e:j = i
 ·subst e
  rw [List.getElem?_set_self (by omega),hv]
 ·rw [List.getElem?_set_ne (by omega)]
  exact h j (by omega)
theorem all_grown {α:Type} {x m:List α} (hl:x.length = m.length) (h:∀ j,j < m.length -> x[j]? = m[j]?):x = m:= by
 apply List.ext_getElem? ; intro j
 by_cases hj:j < m.length
 ·exact h j hj
 ·rw [List.getElem?_eq_none (by omega),List.getElem?_eq_none (by omega)]
def cVal (x:S71):S35:= ⟨x.f0,x.f1⟩
theorem rdlVal_get (xs:List S71) (i:Nat) (h:i < xs.length):rd_T71 xs (i:Int) = xs[i]:= by
 unfold rd_T71
 simp [List.getD_eq_getElem?_getD,List.getElem?_eq_getElem h]
theorem toVal_loop (l:List S71) (hn:l.length <= 1048576) (d:Nat):∀ k (i:Nat) (x:List S35),i + d = l.length -> x.length = (l.map cVal).length -> (∀ j,j < i -> x[j]? = (l.map cVal)[j]?) -> d < k ->
  laws_toValS.l0 k l x i = some (l.map cVal):= by
 induction d with
 | zero =>
  intro k i x hd hx hp hk
  obtain ⟨k,rfl⟩:∃ m,k = m + 1:= ⟨k - 1,by omega⟩
  have c:¬ (i:Int) < (l.length:Int):= by omega
  simp only [laws_toValS.l0,if_neg c]
  rw [all_grown hx (fun j hj => hp j (by simp at hj; omega))]
 | succ d ih =>
  intro k i x hd hx hp hk
  obtain ⟨k,rfl⟩:∃ m,k = m + 1:= ⟨k - 1,by omega⟩
  have hxl:x.length = l.length:= by simpa using hx
  have c:(i:Int) < (l.length:Int):= by omega
  have c2:(i:Int) < (x.length:Int):= by omega
  have hi:i < l.length:= by omega
  have c0:0 <= (i:Int):= Int.natCast_nonneg i
  simp only [laws_toValS.l0,laws_toVal.f,Option.bind_some,if_pos c,if_pos c0,if_pos c2,rdlVal_get l i hi,wrap_next i (by omega),Int.toNat_natCast]
  obtain ⟨h1,h2⟩:= set_grown (v:= cVal l[i]) hx hp (by simpa using hi) (by simp [List.getElem?_eq_getElem hi])
  exact ih k (i + 1) _ (by omega) h1 h2 (by omega)
theorem toVal_all (l:List S71) (hn:l.length <= 1048576) (k:Nat) (hk:1048576 < k):laws_toValS.f k l = some (l.map cVal):= by
 unfold laws_toValS.f
 have c1:0 <= (l.length:Int):= Int.natCast_nonneg _
 simp only [Int.toNat_natCast]
 rw [if_pos c1,if_pos (by omega)]
 exact toVal_loop l hn l.length k 0 _ (by omega) (by simp) (fun j hj => by omega) (by omega)
def cEnvCell (x:S130):S41:= ⟨x.f0,x.f1,cVal x.f2,x.f3⟩
theorem rdlEnvCell_get (xs:List S130) (i:Nat) (h:i < xs.length):rd_T130 xs (i:Int) = xs[i]:= by
 unfold rd_T130
 simp [List.getD_eq_getElem?_getD,List.getElem?_eq_getElem h]
theorem toEnvCell_loop (l:List S130) (hn:l.length <= 1048576) (d:Nat):∀ k (i:Nat) (x:List S41),i + d = l.length -> x.length = (l.map cEnvCell).length -> (∀ j,j < i -> x[j]? = (l.map cEnvCell)[j]?) -> d < k ->
  laws_toEnvCellS.l0 k l x i = some (l.map cEnvCell):= by
 induction d with
 | zero =>
  intro k i x hd hx hp hk
  obtain ⟨k,rfl⟩:∃ m,k = m + 1:= ⟨k - 1,by omega⟩
  have c:¬ (i:Int) < (l.length:Int):= by omega
  simp only [laws_toEnvCellS.l0,if_neg c]
  rw [all_grown hx (fun j hj => hp j (by simp at hj; omega))]
 | succ d ih =>
  intro k i x hd hx hp hk
  obtain ⟨k,rfl⟩:∃ m,k = m + 1:= ⟨k - 1,by omega⟩
  have hxl:x.length = l.length:= by simpa using hx
  have c:(i:Int) < (l.length:Int):= by omega
  have c2:(i:Int) < (x.length:Int):= by omega
  have hi:i < l.length:= by omega
  have c0:0 <= (i:Int):= Int.natCast_nonneg i
  simp only [laws_toEnvCellS.l0,laws_toEnvCell.f,laws_toVal.f,Option.bind_some,if_pos c,if_pos c0,if_pos c2,rdlEnvCell_get l i hi,wrap_next i (by omega),Int.toNat_natCast]
  obtain ⟨h1,h2⟩:= set_grown (v:= cEnvCell l[i]) hx hp (by simpa using hi) (by simp [List.getElem?_eq_getElem hi])
  exact ih k (i + 1) _ (by omega) h1 h2 (by omega)
theorem toEnvCell_all (l:List S130) (hn:l.length <= 1048576) (k:Nat) (hk:1048576 < k):laws_toEnvCellS.f k l = some (l.map cEnvCell):= by
 unfold laws_toEnvCellS.f
 have c1:0 <= (l.length:Int):= Int.natCast_nonneg _
 simp only [Int.toNat_natCast]
 rw [if_pos c1,if_pos (by omega)]
 exact toEnvCell_loop l hn l.length k 0 _ (by omega) (by simp) (fun j hj => by omega) (by omega)
def cClo (x:S132):S86:= ⟨x.f0,x.f1⟩
theorem rdlClo_get (xs:List S132) (i:Nat) (h:i < xs.length):rd_T132 xs (i:Int) = xs[i]:= by
 unfold rd_T132
 simp [List.getD_eq_getElem?_getD,List.getElem?_eq_getElem h]
theorem toClo_loop (l:List S132) (hn:l.length <= 1048576) (d:Nat):∀ k (i:Nat) (x:List S86),i + d = l.length -> x.length = (l.map cClo).length -> (∀ j,j < i -> x[j]? = (l.map cClo)[j]?) -> d < k ->
  laws_toCloS.l0 k l x i = some (l.map cClo):= by
 induction d with
 | zero =>
  intro k i x hd hx hp hk
  obtain ⟨k,rfl⟩:∃ m,k = m + 1:= ⟨k - 1,by omega⟩
  have c:¬ (i:Int) < (l.length:Int):= by omega
  simp only [laws_toCloS.l0,if_neg c]
  rw [all_grown hx (fun j hj => hp j (by simp at hj; omega))]
 | succ d ih =>
  intro k i x hd hx hp hk
  obtain ⟨k,rfl⟩:∃ m,k = m + 1:= ⟨k - 1,by omega⟩
  have hxl:x.length = l.length:= by simpa using hx
  have c:(i:Int) < (l.length:Int):= by omega
  have c2:(i:Int) < (x.length:Int):= by omega
  have hi:i < l.length:= by omega
  have c0:0 <= (i:Int):= Int.natCast_nonneg i
  simp only [laws_toCloS.l0,laws_toClo.f,Option.bind_some,if_pos c,if_pos c0,if_pos c2,rdlClo_get l i hi,wrap_next i (by omega),Int.toNat_natCast]
  obtain ⟨h1,h2⟩:= set_grown (v:= cClo l[i]) hx hp (by simpa using hi) (by simp [List.getElem?_eq_getElem hi])
  exact ih k (i + 1) _ (by omega) h1 h2 (by omega)
theorem toClo_all (l:List S132) (hn:l.length <= 1048576) (k:Nat) (hk:1048576 < k):laws_toCloS.f k l = some (l.map cClo):= by
 unfold laws_toCloS.f
 have c1:0 <= (l.length:Int):= Int.natCast_nonneg _
 simp only [Int.toNat_natCast]
 rw [if_pos c1,if_pos (by omega)]
 exact toClo_loop l hn l.length k 0 _ (by omega) (by simp) (fun j hj => by omega) (by omega)
def cTwo (x:S135):S47:= ⟨cVal x.f0,cVal x.f1⟩
theorem rdlTwo_get (xs:List S135) (i:Nat) (h:i < xs.length):rd_T135 xs (i:Int) = xs[i]:= by
 unfold rd_T135
 simp [List.getD_eq_getElem?_getD,List.getElem?_eq_getElem h]
theorem toTwo_loop (l:List S135) (hn:l.length <= 1048576) (d:Nat):∀ k (i:Nat) (x:List S47),i + d = l.length -> x.length = (l.map cTwo).length -> (∀ j,j < i -> x[j]? = (l.map cTwo)[j]?) -> d < k ->
  laws_toTwoS.l0 k l x i = some (l.map cTwo):= by
 induction d with
 | zero =>
  intro k i x hd hx hp hk
  obtain ⟨k,rfl⟩:∃ m,k = m + 1:= ⟨k - 1,by omega⟩
  have c:¬ (i:Int) < (l.length:Int):= by omega
  simp only [laws_toTwoS.l0,if_neg c]
  rw [all_grown hx (fun j hj => hp j (by simp at hj; omega))]
 | succ d ih =>
  intro k i x hd hx hp hk
  obtain ⟨k,rfl⟩:∃ m,k = m + 1:= ⟨k - 1,by omega⟩
  have hxl:x.length = l.length:= by simpa using hx
  have c:(i:Int) < (l.length:Int):= by omega
  have c2:(i:Int) < (x.length:Int):= by omega
  have hi:i < l.length:= by omega
  have c0:0 <= (i:Int):= Int.natCast_nonneg i
  simp only [laws_toTwoS.l0,laws_toTwo.f,laws_toVal.f,Option.bind_some,if_pos c,if_pos c0,if_pos c2,rdlTwo_get l i hi,wrap_next i (by omega),Int.toNat_natCast]
  obtain ⟨h1,h2⟩:= set_grown (v:= cTwo l[i]) hx hp (by simpa using hi) (by simp [List.getElem?_eq_getElem hi])
  exact ih k (i + 1) _ (by omega) h1 h2 (by omega)
theorem toTwo_all (l:List S135) (hn:l.length <= 1048576) (k:Nat) (hk:1048576 < k):laws_toTwoS.f k l = some (l.map cTwo):= by
 unfold laws_toTwoS.f
 have c1:0 <= (l.length:Int):= Int.natCast_nonneg _
 simp only [Int.toNat_natCast]
 rw [if_pos c1,if_pos (by omega)]
 exact toTwo_loop l hn l.length k 0 _ (by omega) (by simp) (fun j hj => by omega) (by omega)
theorem eqVal_loop (l:List S35) (hn:l.length <= 1048576) (d:Nat):∀ k (i:Nat),i + d = l.length -> d < k -> laws_eqValS.l0 k l l i = some true:= by
 induction d with
 | zero =>
  intro k i hd hk
  obtain ⟨k,rfl⟩:∃ m,k = m + 1:= ⟨k - 1,by omega⟩
  have c:¬ (i:Int) < (l.length:Int):= by omega
  simp only [laws_eqValS.l0,if_neg c]
 | succ d ih =>
  intro k i hd hk
  obtain ⟨k,rfl⟩:∃ m,k = m + 1:= ⟨k - 1,by omega⟩
  have c:(i:Int) < (l.length:Int):= by omega
  have c0:0 <= (i:Int):= Int.natCast_nonneg i
  simp only [laws_eqValS.l0,laws_eqVal.f,if_true,Option.bind_some,if_pos c,if_pos c0,wrap_next i (by omega)]
  exact ih k (i + 1) (by omega) (by omega)
theorem eqVal_all (l:List S35) (hn:l.length <= 1048576) (k:Nat) (hk:1048576 < k):laws_eqValS.f k l l = some true:= by
 unfold laws_eqValS.f
 rw [if_pos rfl]
 exact eqVal_loop l hn l.length k 0 (by omega) (by omega)
theorem eqEnvCell_loop (l:List S41) (hn:l.length <= 1048576) (d:Nat):∀ k (i:Nat),i + d = l.length -> d < k -> laws_eqEnvCellS.l0 k l l i = some true:= by
 induction d with
 | zero =>
  intro k i hd hk
  obtain ⟨k,rfl⟩:∃ m,k = m + 1:= ⟨k - 1,by omega⟩
  have c:¬ (i:Int) < (l.length:Int):= by omega
  simp only [laws_eqEnvCellS.l0,if_neg c]
 | succ d ih =>
  intro k i hd hk
  obtain ⟨k,rfl⟩:∃ m,k = m + 1:= ⟨k - 1,by omega⟩
  have c:(i:Int) < (l.length:Int):= by omega
  have c0:0 <= (i:Int):= Int.natCast_nonneg i
  simp only [laws_eqEnvCellS.l0,laws_eqEnvCell.f,laws_eqVal.f,if_true,Option.bind_some,if_pos c,if_pos c0,wrap_next i (by omega)]
  exact ih k (i + 1) (by omega) (by omega)
theorem eqEnvCell_all (l:List S41) (hn:l.length <= 1048576) (k:Nat) (hk:1048576 < k):laws_eqEnvCellS.f k l l = some true:= by
 unfold laws_eqEnvCellS.f
 rw [if_pos rfl]
 exact eqEnvCell_loop l hn l.length k 0 (by omega) (by omega)
theorem eqClo_loop (l:List S86) (hn:l.length <= 1048576) (d:Nat):∀ k (i:Nat),i + d = l.length -> d < k -> laws_eqCloS.l0 k l l i = some true:= by
 induction d with
 | zero =>
  intro k i hd hk
  obtain ⟨k,rfl⟩:∃ m,k = m + 1:= ⟨k - 1,by omega⟩
  have c:¬ (i:Int) < (l.length:Int):= by omega
  simp only [laws_eqCloS.l0,if_neg c]
 | succ d ih =>
  intro k i hd hk
  obtain ⟨k,rfl⟩:∃ m,k = m + 1:= ⟨k - 1,by omega⟩
  have c:(i:Int) < (l.length:Int):= by omega
  have c0:0 <= (i:Int):= Int.natCast_nonneg i
  simp only [laws_eqCloS.l0,laws_eqClo.f,if_true,Option.bind_some,if_pos c,if_pos c0,wrap_next i (by omega)]
  exact ih k (i + 1) (by omega) (by omega)
theorem eqClo_all (l:List S86) (hn:l.length <= 1048576) (k:Nat) (hk:1048576 < k):laws_eqCloS.f k l l = some true:= by
 unfold laws_eqCloS.f
 rw [if_pos rfl]
 exact eqClo_loop l hn l.length k 0 (by omega) (by omega)
theorem eqTwo_loop (l:List S47) (hn:l.length <= 1048576) (d:Nat):∀ k (i:Nat),i + d = l.length -> d < k -> laws_eqTwoS.l0 k l l i = some true:= by
 induction d with
 | zero =>
  intro k i hd hk
  obtain ⟨k,rfl⟩:∃ m,k = m + 1:= ⟨k - 1,by omega⟩
  have c:¬ (i:Int) < (l.length:Int):= by omega
  simp only [laws_eqTwoS.l0,if_neg c]
 | succ d ih =>
  intro k i hd hk
  obtain ⟨k,rfl⟩:∃ m,k = m + 1:= ⟨k - 1,by omega⟩
  have c:(i:Int) < (l.length:Int):= by omega
  have c0:0 <= (i:Int):= Int.natCast_nonneg i
  simp only [laws_eqTwoS.l0,laws_eqTwo.f,laws_eqVal.f,if_true,Option.bind_some,if_pos c,if_pos c0,wrap_next i (by omega)]
  exact ih k (i + 1) (by omega) (by omega)
theorem eqTwo_all (l:List S47) (hn:l.length <= 1048576) (k:Nat) (hk:1048576 < k):laws_eqTwoS.f k l l = some true:= by
 unfold laws_eqTwoS.f
 rw [if_pos rfl]
 exact eqTwo_loop l hn l.length k 0 (by omega) (by omega)
theorem sz_heap (a:List S130) (b:List S132) (c:List S135) (d:List S71) (ha:a.length <= 9223372036854775807) (hb:b.length <= 9223372036854775807) (hc:c.length <= 9223372036854775807) (hd:d.length <= 9223372036854775807) :
  ∃ r,laws_szHeap.f a b c d 1048576 = some r /\ (0 <= r -> a.length <= 1048576 /\ b.length <= 1048576 /\ c.length <= 1048576 /\ d.length <= 1048576):= by
 simp only [laws_szHeap.f,laws_szEnvCellS.f,laws_szCloS.f,laws_szTwoS.f,laws_szValS.f]
 have e1:wrap64 (1048576 - (a.length:Int)) = 1048576 - (a.length:Int):= by unfold wrap64; omega
 rw [e1]
 by_cases h1:1048576 - (a.length:Int) < 0
 ·simp only [if_pos h1,Option.bind_some]
  exact ⟨-1,by simp,fun h => by omega⟩
 ·simp only [if_neg h1,Option.bind_some]
  have e2:wrap64 (1048576 - (a.length:Int) - (b.length:Int)) = 1048576 - (a.length:Int) - (b.length:Int):= by unfold wrap64; omega
  rw [e2]
  by_cases h2:1048576 - (a.length:Int) - (b.length:Int) < 0
  ·simp only [if_pos h2,Option.bind_some]
   exact ⟨-1,by simp,fun h => by omega⟩
  ·simp only [if_neg h2,Option.bind_some]
   have e3:wrap64 (1048576 - (a.length:Int) - (b.length:Int) - (c.length:Int)) = 1048576 - (a.length:Int) - (b.length:Int) - (c.length:Int):= by unfold wrap64; omega
   rw [e3]
   by_cases h3:1048576 - (a.length:Int) - (b.length:Int) - (c.length:Int) < 0
   ·simp only [if_pos h3,Option.bind_some]
    exact ⟨-1,by simp,fun h => by omega⟩
   ·simp only [if_neg h3,Option.bind_some]
    have e4:wrap64 (1048576 - (a.length:Int) - (b.length:Int) - (c.length:Int) - (d.length:Int)) = 1048576 - (a.length:Int) - (b.length:Int) - (c.length:Int) - (d.length:Int):= by unfold wrap64; omega
    rw [e4]
    by_cases h4:1048576 - (a.length:Int) - (b.length:Int) - (c.length:Int) - (d.length:Int) < 0
    ·simp only [if_pos h4,Option.bind_some]
     exact ⟨-1,by simp,fun h => by omega⟩
    ·simp only [if_neg h4,Option.bind_some]
     exact ⟨_,rfl,fun h => by omega⟩
theorem to_heap (a:List S130) (b:List S132) (c:List S135) (d:List S71) (ha:a.length <= 1048576) (hb:b.length <= 1048576) (hc:c.length <= 1048576) (hd:d.length <= 1048576) (k:Nat) (hk:1048576 < k) :
  laws_toHeap.f k a b c d = some (a.map cEnvCell,b.map cClo,c.map cTwo,d.map cVal):= by
 unfold laws_toHeap.f
 simp only [toEnvCell_all a ha k hk,toClo_all b hb k hk,toTwo_all c hc k hk,toVal_all d hd k hk,Option.bind_some]
theorem eq_heap (a:List S41) (b:List S86) (c:List S47) (d:List S35) (ha:a.length <= 1048576) (hb:b.length <= 1048576) (hc:c.length <= 1048576) (hd:d.length <= 1048576) (k:Nat) (hk:1048576 < k) :
  laws_eqHeap.f k a b c d a b c d = some true:= by
 unfold laws_eqHeap.f
 simp only [eqEnvCell_all a ha k hk,eqClo_all b hb k hk,eqTwo_all c hc k hk,eqVal_all d hd k hk,Option.bind_some,if_true]
theorem in_same (a b c:Int):impl_in.f a b c = spec_l1In.f a b c:= rfl
theorem in_some (a b c:Int):spec_l1In.f a b c = some (decide (a >= b /\ a <= c)):= by
 unfold spec_l1In.f
 by_cases h:a >= b
 ·simp [h]
 ·simp [h]
theorem valok_both (a:List S41) (b:List S86) (c:List S47) (d:List S35) (v n:Int) (k:Nat) (hk:1 <= k):∃ r,spec_ValOk.f k a b c d v n = some r /\ impl_ValOk.f k a b c d v n = some r:= by
 obtain ⟨k,rfl⟩:∃ m,k = m + 1:= ⟨k - 1,by omega⟩
 simp only [spec_ValOk.f,impl_ValOk.f,spec_ValOk.j0,impl_ValOk.j0,in_same,in_some,Option.bind_some]
 by_cases h0:v = 0
 ·simp [h0]
 ·by_cases h1:v = 1
  ·simp [h1]
  ·by_cases h2:v = 2
   ·simp [h2]
   ·by_cases h3:v = 3
    ·simp [h3]
    ·by_cases h4:v = 4
     ·simp [h4]
     ·by_cases h5:v = 5
      ·simp [h5]
      ·simp [h0,h1,h2,h3,h4,h5]
section
variable (a:List S41) (b:List S86) (c:List S47) (d:List S35)
theorem heap3 (hn:d.length <= 1048576) (m:Nat):∀ k (i:Nat),i + m = d.length -> m + 1 < k -> ∃ r,spec_HeapOk.l3 k i a b c d = some r /\ impl_HeapOk.l3 k d (d.length:Int) i a b c d = some r:= by
 induction m with
 | zero =>
  intro k i hd hk
  obtain ⟨k,rfl⟩:∃ m,k = m + 1:= ⟨k - 1,by omega⟩
  have cn:¬ (i:Int) < (d.length:Int):= by omega
  simp only [spec_HeapOk.l3,impl_HeapOk.l3,if_neg cn]
  exact ⟨true,rfl,rfl⟩
 | succ m ih =>
  intro k i hd hk
  obtain ⟨k,rfl⟩:∃ m,k = m + 1:= ⟨k - 1,by omega⟩
  have c1:(i:Int) < (d.length:Int):= by omega
  have c0:0 <= (i:Int):= Int.natCast_nonneg i
  simp only [spec_HeapOk.l3,impl_HeapOk.l3,if_pos c1,if_pos c0,wrap_next i (by omega)]
  obtain ⟨r,h1,h2⟩:= ih k (i + 1) (by omega) (by omega)
  obtain ⟨q,h3,h4⟩:= valok_both a b c d (rd_T35 d i).f0 (rd_T35 d i).f1 k (by omega)
  rw [h1,h2,h3,h4]
  cases q
  ·exact ⟨false,rfl,rfl⟩
  ·exact ⟨r,rfl,rfl⟩
theorem heap2 (hn:c.length <= 1048576) (hn3:d.length <= 1048576) (m:Nat):∀ k (i:Nat),i + m = c.length -> m + d.length + 2 < k -> ∃ r,spec_HeapOk.l2 k i a b c d = some r /\ impl_HeapOk.l2 k c (c.length:Int) i a b c d = some r:= by
 induction m with
 | zero =>
  intro k i hd hk
  obtain ⟨k,rfl⟩:∃ m,k = m + 1:= ⟨k - 1,by omega⟩
  have cn:¬ (i:Int) < (c.length:Int):= by omega
  simp only [spec_HeapOk.l2,impl_HeapOk.l2,if_neg cn]
  exact heap3 a b c d hn3 d.length k 0 (by omega) (by omega)
 | succ m ih =>
  intro k i hd hk
  obtain ⟨k,rfl⟩:∃ m,k = m + 1:= ⟨k - 1,by omega⟩
  have c1:(i:Int) < (c.length:Int):= by omega
  have c0:0 <= (i:Int):= Int.natCast_nonneg i
  simp only [spec_HeapOk.l2,impl_HeapOk.l2,if_pos c1,if_pos c0,wrap_next i (by omega)]
  obtain ⟨r,h1,h2⟩:= ih k (i + 1) (by omega) (by omega)
  obtain ⟨q,h3,h4⟩:= valok_both a b c d (rd_T47 c i).f0.f0 (rd_T47 c i).f0.f1 k (by omega)
  obtain ⟨q',h5,h6⟩:= valok_both a b c d (rd_T47 c i).f1.f0 (rd_T47 c i).f1.f1 k (by omega)
  rw [h1,h2,h3,h4,h5,h6]
  cases q
  ·exact ⟨false,rfl,rfl⟩
  ·cases q'
   ·exact ⟨false,rfl,rfl⟩
   ·exact ⟨r,rfl,rfl⟩
theorem heap1 (hn1:b.length <= 1048576) (hn:c.length <= 1048576) (hn3:d.length <= 1048576) (m:Nat):∀ k (i:Nat),i + m = b.length -> m + c.length + d.length + 3 < k -> ∃ r,spec_HeapOk.l1 k i a b c d = some r /\ impl_HeapOk.l1 k b (b.length:Int) i a b c d = some r:= by
 induction m with
 | zero =>
  intro k i hd hk
  obtain ⟨k,rfl⟩:∃ m,k = m + 1:= ⟨k - 1,by omega⟩
  have cn:¬ (i:Int) < (b.length:Int):= by omega
  simp only [spec_HeapOk.l1,impl_HeapOk.l1,if_neg cn]
  exact heap2 a b c d hn hn3 c.length k 0 (by omega) (by omega)
 | succ m ih =>
  intro k i hd hk
  obtain ⟨k,rfl⟩:∃ m,k = m + 1:= ⟨k - 1,by omega⟩
  have c1:(i:Int) < (b.length:Int):= by omega
  have c0:0 <= (i:Int):= Int.natCast_nonneg i
  simp only [spec_HeapOk.l1,impl_HeapOk.l1,if_pos c1,if_pos c0,wrap_next i (by omega),in_same,in_some,Option.bind_some]
  obtain ⟨r,h1,h2⟩:= ih k (i + 1) (by omega) (by omega)
  rw [h1,h2]
  split
  ·exact ⟨r,rfl,rfl⟩
  ·exact ⟨false,rfl,rfl⟩
theorem heap0 (hn0:a.length <= 1048576) (hn1:b.length <= 1048576) (hn:c.length <= 1048576) (hn3:d.length <= 1048576) (m:Nat):∀ k (i:Nat),i + m = a.length -> m + b.length + c.length + d.length + 4 < k -> ∃ r,spec_HeapOk.l0 k i a b c d = some r /\ impl_HeapOk.l0 k a (a.length:Int) i a b c d = some r:= by
 induction m with
 | zero =>
  intro k i hd hk
  obtain ⟨k,rfl⟩:∃ m,k = m + 1:= ⟨k - 1,by omega⟩
  have cn:¬ (i:Int) < (a.length:Int):= by omega
  simp only [spec_HeapOk.l0,impl_HeapOk.l0,if_neg cn]
  exact heap1 a b c d hn1 hn hn3 b.length k 0 (by omega) (by omega)
 | succ m ih =>
  intro k i hd hk
  obtain ⟨k,rfl⟩:∃ m,k = m + 1:= ⟨k - 1,by omega⟩
  have c1:(i:Int) < (a.length:Int):= by omega
  have c0:0 <= (i:Int):= Int.natCast_nonneg i
  simp only [spec_HeapOk.l0,impl_HeapOk.l0,if_pos c1,if_pos c0,wrap_next i (by omega),in_same,in_some,Option.bind_some]
  obtain ⟨r,h1,h2⟩:= ih k (i + 1) (by omega) (by omega)
  obtain ⟨q,h3,h4⟩:= valok_both a b c d (rd_T41 a i).f2.f0 (rd_T41 a i).f2.f1 k (by omega)
  rw [h1,h2,h3,h4]
  simp only [Option.bind_some]
  cases q
  ·refine ⟨false,?_,rfl⟩
   split <;> rfl
  ·split
   ·exact ⟨r,rfl,by simp⟩
   ·exact ⟨false,rfl,by simp⟩
theorem heapok_both (hn0:a.length <= 1048576) (hn1:b.length <= 1048576) (hn:c.length <= 1048576) (hn3:d.length <= 1048576) (k:Nat) (hk:5000000 < k):∃ r,spec_HeapOk.f k a b c d = some r /\ impl_HeapOk.f k a b c d = some r :=
 heap0 a b c d hn0 hn1 hn hn3 a.length k 0 (by omega) (by omega)
end
section
variable (a:List S41) (b:List S86) (c:List S47) (d:List S35)
def vOK (v n:Int):Prop:= (v = 0 /\ 0 <= n /\ n <= 65535) \/ (v = 1 /\ 0 <= n /\ n < b.length) \/ (v = 2 /\ n = 0) \/ ((v = 3 \/ v = 4) /\ 0 <= n /\ n < c.length) \/ (v = 5 /\ 0 <= n /\ n < d.length)
theorem valok_iff (hb:b.length <= 1048576) (hc:c.length <= 1048576) (hd:d.length <= 1048576) (v n:Int) (k:Nat) (r:Bool) (h:spec_ValOk.f k a b c d v n = some r):r = true ↔ vOK b c d v n:= by
 have w1:wrap64 ((b.length:Int) - 1) = (b.length:Int) - 1:= by unfold wrap64; omega
 have w2:wrap64 ((c.length:Int) - 1) = (c.length:Int) - 1:= by unfold wrap64; omega
 have w3:wrap64 ((d.length:Int) - 1) = (d.length:Int) - 1:= by unfold wrap64; omega
 unfold vOK
 simp only [spec_ValOk.f,in_some,Option.bind_some,w1] at h
 by_cases h0:v = 0
 ·simp only [if_pos h0,Option.some.injEq] at h
  subst h; simp only [decide_eq_true_eq]; omega
 ·by_cases h1:v = 1
  ·simp only [if_neg h0,if_pos h1,Option.some.injEq] at h
   subst h; simp only [decide_eq_true_eq]; omega
  ·by_cases h2:v = 2
   ·simp only [if_neg h0,if_neg h1,if_pos h2,Option.some.injEq] at h
    subst h; simp only [beq_iff_eq]; omega
   ·simp only [if_neg h0,if_neg h1,if_neg h2] at h
    cases k with
    | zero => simp only [spec_ValOk.j0] at h; split at h <;> exact absurd h (by simp)
    | succ k =>
     simp only [spec_ValOk.j0,in_some,Option.bind_some,w2,w3] at h
     by_cases h3:v = 3
     ·rw [if_pos h3,if_pos (by simp [h3])] at h
      obtain rfl:= Option.some.inj h
      simp only [decide_eq_true_eq]; omega
     ·rw [if_neg h3] at h
      by_cases h4:v = 4
      ·rw [if_pos (by simp [h4])] at h
       obtain rfl:= Option.some.inj h
       simp only [decide_eq_true_eq]; omega
      ·rw [if_neg (by simp [h4])] at h
       by_cases h5:v = 5
       ·rw [if_pos h5] at h
        obtain rfl:= Option.some.inj h
        simp only [decide_eq_true_eq]; omega
       ·rw [if_neg h5] at h
        obtain rfl:= Option.some.inj h
        simp; omega
theorem hf2 (hb:b.length <= 1048576) (hc:c.length <= 1048576) (hd:d.length <= 1048576):∀ (k i:Nat),spec_HeapOk.l2 k i a b c d = some true -> (∀ j:Nat,i <= j -> j < c.length -> vOK b c d (rd_T47 c j).f0.f0 (rd_T47 c j).f0.f1 /\ vOK b c d (rd_T47 c j).f1.f0 (rd_T47 c j).f1.f1) /\ ∃ q,spec_HeapOk.l3 q 0 a b c d = some true:= by
 intro k
 induction k with
 | zero => intro i h; simp [spec_HeapOk.l2] at h
 | succ k ih =>
  intro i h
  by_cases c1:(i:Int) < (c.length:Int)
  ·have c0:0 <= (i:Int):= Int.natCast_nonneg i
   simp only [spec_HeapOk.l2,if_pos c1,if_pos c0,wrap_next i (by omega)] at h
   obtain ⟨t,h1,h2⟩:= Option.bind_eq_some_iff.1 h
   cases t
   ·simp at h2
   ·rw [if_pos rfl] at h2
    obtain ⟨t,h3,h4⟩:= Option.bind_eq_some_iff.1 h2
    cases t
    ·simp at h4
    ·rw [if_pos rfl] at h4
     obtain ⟨g1,g2⟩:= ih (i + 1) h4
     refine ⟨fun j hi hj => ?_,g2⟩
     by_cases e:i = j
     ·subst e
      exact ⟨(valok_iff a b c d hb hc hd _ _ _ _ h1).1 rfl,(valok_iff a b c d hb hc hd _ _ _ _ h3).1 rfl⟩
     ·exact g1 j (by omega) hj
  ·simp only [spec_HeapOk.l2,if_neg c1] at h
   exact ⟨fun j hi hj => by omega,k,h⟩
theorem hf1 (ha:a.length <= 1048576) (hb:b.length <= 1048576):∀ (k i:Nat),spec_HeapOk.l1 k i a b c d = some true -> ∃ q,spec_HeapOk.l2 q 0 a b c d = some true:= by
 intro k
 induction k with
 | zero => intro i h; simp [spec_HeapOk.l1] at h
 | succ k ih =>
  intro i h
  by_cases c1:(i:Int) < (b.length:Int)
  ·have c0:0 <= (i:Int):= Int.natCast_nonneg i
   simp only [spec_HeapOk.l1,if_pos c1,if_pos c0,wrap_next i (by omega)] at h
   obtain ⟨t,h1,h2⟩:= Option.bind_eq_some_iff.1 h
   cases t
   ·simp at h2
   ·rw [if_pos rfl] at h2
    exact ih (i + 1) h2
  ·simp only [spec_HeapOk.l1,if_neg c1] at h
   exact ⟨k,h⟩
theorem hf0 (ha:a.length <= 1048576) (hb:b.length <= 1048576) (hc:c.length <= 1048576) (hd:d.length <= 1048576):∀ (k i:Nat),spec_HeapOk.l0 k i a b c d = some true -> (∀ j:Nat,i <= j -> j < a.length -> -1 <= (rd_T41 a j).f3 /\ (rd_T41 a j).f3 < j /\ vOK b c d (rd_T41 a j).f2.f0 (rd_T41 a j).f2.f1) /\ ∃ q,spec_HeapOk.l1 q 0 a b c d = some true:= by
 intro k
 induction k with
 | zero => intro i h; simp [spec_HeapOk.l0] at h
 | succ k ih =>
  intro i h
  by_cases c1:(i:Int) < (a.length:Int)
  ·have c0:0 <= (i:Int):= Int.natCast_nonneg i
   have w1:wrap64 ((i:Int) - 1) = (i:Int) - 1:= by unfold wrap64; omega
   simp only [spec_HeapOk.l0,if_pos c1,if_pos c0,wrap_next i (by omega),in_some,Option.bind_some,w1] at h
   by_cases hx:(rd_T41 a i).f3 >= -1 /\ (rd_T41 a i).f3 <= (i:Int) - 1
   ·rw [if_pos (by simpa using hx)] at h
    obtain ⟨t,h3,h4⟩:= Option.bind_eq_some_iff.1 h
    cases t
    ·simp at h4
    ·rw [if_pos rfl] at h4
     obtain ⟨g1,g2⟩:= ih (i + 1) h4
     refine ⟨fun j hi hj => ?_,g2⟩
     by_cases e:i = j
     ·subst e
      exact ⟨hx.1,by omega,(valok_iff a b c d hb hc hd _ _ _ _ h3).1 rfl⟩
     ·exact g1 j (by omega) hj
   ·rw [if_neg (by simpa using hx)] at h
    simp at h
  ·simp only [spec_HeapOk.l0,if_neg c1] at h
   exact ⟨fun j hi hj => by omega,k,h⟩
structure HOK:Prop where
 env:∀ j:Nat,j < a.length -> -1 <= (rd_T41 a j).f3 /\ (rd_T41 a j).f3 < j /\ vOK b c d (rd_T41 a j).f2.f0 (rd_T41 a j).f2.f1
 two:∀ j:Nat,j < c.length -> vOK b c d (rd_T47 c j).f0.f0 (rd_T47 c j).f0.f1 /\ vOK b c d (rd_T47 c j).f1.f0 (rd_T47 c j).f1.f1
theorem heap_facts (ha:a.length <= 1048576) (hb:b.length <= 1048576) (hc:c.length <= 1048576) (hd:d.length <= 1048576) (k:Nat) (h:spec_HeapOk.f k a b c d = some true):HOK a b c d:= by
 obtain ⟨g1,q,h1⟩:= hf0 a b c d ha hb hc hd k 0 h
 obtain ⟨q,h2⟩:= hf1 a b c d ha hb q 0 h1
 obtain ⟨g2,q,h3⟩:= hf2 a b c d hb hc hd q 0 h2
 exact ⟨fun j hj => g1 j (by omega) hj,fun j hj => g2 j (by omega) hj⟩
end
theorem ev_step {α:Type} {g:Nat -> Option α} {r:α} (h:Ev (fun k => g (k + 1)) r):Ev g r:= Ev.step (fun _ => rfl) h
theorem ev_bind {α β:Type} {g:Nat -> Option α} {f:Nat -> α -> Option β} {a:α} {r:β} (h:Ev g a) (k:Ev (fun n => f n a) r):Ev (fun n => (g n).bind (f n)) r:= Ev.bind h k
theorem ev_const {α:Type} (r:α):Ev (fun _ => some r) r:= Ev.now r
theorem ev_at {α:Type} {g:Nat -> Option α} {r:α} (n:Nat) (h:∀ k,n <= k -> g k = some r):Ev g r:= ⟨n,h⟩
theorem ev_eq {α:Type} {g:Nat -> Option α} {r q:α} (h:Ev g r) (e:r = q):Ev g q:= e ▸ h
theorem digs (l:List UInt8):(⟨l.toArray⟩:ByteArray).size = l.length:= by simp [ByteArray.size]
theorem one_num (d:Nat) (h:d < 10):strOfNums [wrap64 (48 + (d:Int)) % 256] = (⟨[UInt8.ofNat (48 + d)].toArray⟩:ByteArray):= by
 have e:wrap64 (48 + (d:Int)) % 256 = ((48 + d:Nat):Int):= by unfold wrap64; omega
 rw [e]
 unfold strOfNums
 simp only [List.map_cons,List.map_nil]
 rfl
theorem bytes_add (a b:List UInt8):(⟨a.toArray⟩:ByteArray) ++ (⟨b.toArray⟩:ByteArray) = (⟨(a ++ b).toArray⟩:ByteArray):= ByteArray.mk_append_mk a b
theorem dec_step (u:Nat) (h:10 <= u):Lib.decDigits u = Lib.decDigits (u / 10) ++ [UInt8.ofNat (48 + u % 10)]:= by
 rw [Lib.decDigits,dif_neg (by omega)]
theorem dec_last (u:Nat) (h:u < 10):Lib.decDigits u = [UInt8.ofNat (48 + u)]:= by
 rw [Lib.decDigits,dif_pos h]
theorem dec_len (d:Nat):∀ u:Nat,u < 10 ^ d -> (Lib.decDigits u).length <= d + 1:= by
 induction d with
 | zero => intro u h; rw [dec_last u (by simp at h; omega)]; simp
 | succ d ih =>
  intro u h
  by_cases c:u < 10
  ·rw [dec_last u c]; simp
  ·rw [dec_step u (by omega),List.length_append]
   have:= ih (u / 10) (by rw [Nat.pow_succ] at h; omega)
   simp
   omega
theorem dec_end (x3:ByteArray) (b:Bool) (hs:x3.size <= 1000):Ev (fun k => spec_Dec.l0 k 0 x3 b) (if b = true then (⟨#[45]⟩:ByteArray) ++ x3 else x3):= by
 apply ev_step
 have h1:1 + x3.size <= 9223372036854775807:= by omega
 cases b
 ·simp only [spec_Dec.l0,if_true,Bool.false_eq_true,if_false]
  exact ev_const _
 ·simp only [spec_Dec.l0,if_true,if_pos h1]
  exact ev_const _
theorem dec_loop (u:Nat):∀ (x:Int) (t:List UInt8) (b:Bool),u <= 9223372036854775808 -> 0 < u -> (x = (u:Int) /\ u <= 9223372036854775807 \/ x = -(u:Int)) -> t.length + u.log2 <= 500 ->
  Ev (fun k => spec_Dec.l0 k x (⟨t.toArray⟩:ByteArray) b) (if b = true then (⟨#[45]⟩:ByteArray) ++ (⟨(Lib.decDigits u ++ t).toArray⟩:ByteArray) else (⟨(Lib.decDigits u ++ t).toArray⟩:ByteArray)):= by
 induction u using Nat.strongRecOn with
 | _ u ih =>
  intro x t b hu h0 hx ht
  have hne:¬ x = 0:= by omega
  have hd:u % 10 < 10:= Nat.mod_lt _ (by omega)
  have hsz:(strOfNums [wrap64 (48 + ((u % 10:Nat):Int)) % 256]).size = 1:= rfl
  have hts:(⟨t.toArray⟩:ByteArray).size = t.length:= digs t
  have h1:(strOfNums [wrap64 (48 + ((u % 10:Nat):Int)) % 256]).size + (⟨t.toArray⟩:ByteArray).size <= 9223372036854775807:= by rw [hsz,hts]; omega
  have next:Ev (fun k => spec_Dec.l0 k (wrap64 (Int.tdiv x 10)) (strOfNums [wrap64 (48 + ((u % 10:Nat):Int)) % 256] ++ (⟨t.toArray⟩:ByteArray)) b) (if b = true then (⟨#[45]⟩:ByteArray) ++ (⟨(Lib.decDigits u ++ t).toArray⟩:ByteArray) else (⟨(Lib.decDigits u ++ t).toArray⟩:ByteArray)):= by
   rw [one_num _ hd,bytes_add]
   by_cases c:u < 10
   ·have e:wrap64 (Int.tdiv x 10) = 0:= by
     rcases hx with ⟨rfl,_⟩ | rfl
     ·rw [Int.tdiv_eq_ediv_of_nonneg (by omega)]; unfold wrap64; omega
     ·rw [Int.neg_tdiv,Int.tdiv_eq_ediv_of_nonneg (by omega)]; unfold wrap64; omega
    rw [e,dec_last u c,show u % 10 = u from Nat.mod_eq_of_lt c]
    exact dec_end _ b (by rw [digs]; simp; omega)
   ·have hl:(u / 10).log2 + 1 <= u.log2:= by
     have h2:u / 10 <= u / 2:= by omega
     have h4:2 ^ u.log2 <= u:= Nat.log2_self_le (by omega)
     have h5:u < 2 ^ (u.log2 + 1):= Nat.lt_log2_self
     have h6:(u / 10).log2 < u.log2:= (Nat.log2_lt (by omega)).2 (by rw [Nat.pow_succ] at h5; omega)
     omega
    have:= ih (u / 10) (by omega) (wrap64 (Int.tdiv x 10)) ([UInt8.ofNat (48 + u % 10)] ++ t) b (by omega) (by omega) (by
     rcases hx with ⟨rfl,hx⟩ | rfl
     ·left
      rw [Int.tdiv_eq_ediv_of_nonneg (by omega)]; unfold wrap64; omega
     ·right
      rw [Int.neg_tdiv,Int.tdiv_eq_ediv_of_nonneg (by omega)]; unfold wrap64; omega) (by simp; omega)
    rw [dec_step u (by omega),List.append_assoc]
    exact this
  apply ev_step
  by_cases hn:Int.tmod x 10 < 0
  ·have e:wrap64 (-(Int.tmod x 10)) = ((u % 10:Nat):Int):= by
    rcases hx with ⟨rfl,_⟩ | rfl
    ·rw [Int.tmod_eq_emod_of_nonneg (by omega)] at hn; omega
    ·rw [Int.neg_tmod,Int.tmod_eq_emod_of_nonneg (by omega)]; unfold wrap64; omega
   simp only [spec_Dec.l0,if_neg hne,if_pos hn,Option.bind_some,e,if_pos h1]
   exact next
  ·have e:Int.tmod x 10 = ((u % 10:Nat):Int):= by
    rcases hx with ⟨rfl,_⟩ | rfl
    ·rw [Int.tmod_eq_emod_of_nonneg (by omega)]; omega
    ·rw [Int.neg_tmod,Int.tmod_eq_emod_of_nonneg (by omega)] at hn ⊢; omega
   simp only [spec_Dec.l0,if_neg hne,if_neg hn,Option.bind_some,e,if_pos h1]
   exact next
def decM (n:Int):ByteArray:= ⟨(Lib.itoa n).toArray⟩
theorem decM_size (n:Int) (h0:-9223372036854775808 <= n) (h1:n <= 9223372036854775807):(decM n).size <= 22:= by
 unfold decM Lib.itoa
 rw [digs]
 have h10:(10:Nat) ^ 20 = 100000000000000000000:= by decide
 split
 ·have:= dec_len 20 n.natAbs (by rw [h10]; omega)
  simp
  omega
 ·have:= dec_len 20 n.toNat (by rw [h10]; omega)
  omega
theorem spec_dec (n:Int) (h0:-9223372036854775808 <= n) (h1:n <= 9223372036854775807):Ev (fun k => spec_Dec.f k n) (decM n):= by
 unfold spec_Dec.f
 by_cases c:n = 0
 ·simp only [if_pos c]
  refine ev_eq (ev_const _) ?_
  subst c
  unfold decM Lib.itoa
  rw [if_neg (by omega)]
  rw [show (0:Int).toNat = 0 from rfl,dec_last 0 (by omega)]
  rfl
 ·simp only [if_neg c]
  have hl:n.natAbs.log2 <= 64:= by
   have:n.natAbs.log2 < 65:= (Nat.log2_lt (by omega)).2 (by omega)
   omega
  have:= dec_loop n.natAbs n [] (decide (n < 0)) (by omega) (by omega) (by omega) (by simp; omega)
  refine ev_eq this ?_
  unfold decM Lib.itoa
  rw [List.append_nil]
  by_cases s:n < 0
  ·rw [decide_eq_true s,if_pos rfl,if_pos s]
   rw [show (⟨#[45]⟩:ByteArray) = (⟨[45].toArray⟩:ByteArray) from rfl,bytes_add]
   rfl
  ·rw [decide_eq_false s,if_neg (by simp),if_neg s,show n.natAbs = n.toNat by omega]
theorem impl_dec (n:Int) (h0:-9223372036854775808 <= n) (h1:n <= 9223372036854775807):impl_Dec.f n = some (decM n):= by
 unfold impl_Dec.f strconv_Itoa_49.f
 rw [if_pos h0,if_pos h1]
 rfl
def leafM (v n:Int):Option ByteArray:= if v = 0 then some (decM n) else if v = 1 then some (⟨#[102,117,110]⟩:ByteArray) else if v = 2 then some (⟨#[110,105,108]⟩:ByteArray) else if v = 5 then some (⟨#[114,101,102]⟩:ByteArray) else none
def headM (v:Int):ByteArray:= if v = 3 then (⟨#[40,112,97,105,114,32]⟩:ByteArray) else (⟨#[40,99,111,110,115,32]⟩:ByteArray)
def showM (c:List S47):Nat -> Int -> Int -> ByteArray
 | 0,v,n => (leafM v n).getD (⟨#[95]⟩:ByteArray)
 | m + 1,v,n => (leafM v n).getD (((((headM v) ++ showM c m (rd_T47 c n).f0.f0 (rd_T47 c n).f0.f1) ++ (⟨#[32]⟩:ByteArray)) ++ showM c m (rd_T47 c n).f1.f0 (rd_T47 c n).f1.f1) ++ (⟨#[41]⟩:ByteArray))
section
variable (a:List S41) (b:List S86) (c:List S47) (d:List S35)
theorem leaf_none {v n:Int} (h:vOK b c d v n) (hn:leafM v n = none):(v = 3 \/ v = 4) /\ 0 <= n /\ n < c.length:= by
 unfold leafM at hn
 unfold vOK at h
 split at hn
 ·cases hn
 ·split at hn
  ·cases hn
  ·split at hn
   ·cases hn
   ·split at hn
    ·cases hn
    ·omega
theorem leaf_size {v n:Int} (h:vOK b c d v n) {t:ByteArray} (hn:leafM v n = some t):t.size <= 22:= by
 unfold leafM at hn
 unfold vOK at h
 split at hn
 ·obtain rfl:= Option.some.inj hn
  exact decM_size n (by omega) (by omega)
 ·split at hn
  ·obtain rfl:= Option.some.inj hn
   decide
  ·split at hn
   ·obtain rfl:= Option.some.inj hn
    decide
   ·split at hn
    ·obtain rfl:= Option.some.inj hn
     decide
    ·cases hn
theorem head_size (v:Int):(headM v).size = 6:= by unfold headM; split <;> rfl
theorem show_size (ho:HOK a b c d) (m:Nat):∀ v n,vOK b c d v n -> (showM c m v n).size + 8 <= 30 * 2 ^ m:= by
 induction m with
 | zero =>
  intro v n h
  simp only [showM]
  cases e:leafM v n with
  | none => simp only [Option.getD_none]; decide
  | some t => have:= leaf_size b c d h e; simp only [Option.getD_some]; omega
 | succ m ih =>
  intro v n h
  simp only [showM]
  have hp:1 <= 2 ^ m:= Nat.one_le_two_pow
  cases e:leafM v n with
  | none =>
   obtain ⟨_,hn0,hn1⟩:= leaf_none b c d h e
   obtain ⟨j,rfl⟩:∃ j:Nat,n = j:= ⟨n.toNat,by omega⟩
   obtain ⟨o1,o2⟩:= ho.two j (by omega)
   have h1:= ih _ _ o1
   have h2:= ih _ _ o2
   simp only [Option.getD_none,ByteArray.size_append,head_size]
   rw [show (⟨#[32]⟩:ByteArray).size = 1 from rfl,show (⟨#[41]⟩:ByteArray).size = 1 from rfl,Nat.pow_succ]
   omega
  | some t => have:= leaf_size b c d h e; simp only [Option.getD_some,Nat.pow_succ]; omega
theorem leaf_spec {v n:Int} (h:vOK b c d v n) {t:ByteArray} (hn:leafM v n = some t) (x:Int):Ev (fun k => spec_l10Show.f k a b c d v n x) t:= by
 unfold leafM at hn
 apply ev_step
 by_cases h0:v = 0
 ·rw [if_pos h0] at hn
  obtain rfl:= Option.some.inj hn
  simp only [spec_l10Show.f,if_pos h0]
  unfold vOK at h
  exact ev_bind (spec_dec n (by omega) (by omega)) (ev_const _)
 ·rw [if_neg h0] at hn
  simp only [spec_l10Show.f,if_neg h0]
  by_cases h1:v = 1
  ·rw [if_pos h1] at hn
   obtain rfl:= Option.some.inj hn
   simp only [if_pos h1]; exact ev_const _
  ·rw [if_neg h1] at hn
   simp only [if_neg h1]
   by_cases h2:v = 2
   ·rw [if_pos h2] at hn
    obtain rfl:= Option.some.inj hn
    simp only [if_pos h2]; exact ev_const _
   ·rw [if_neg h2] at hn
    simp only [if_neg h2]
    by_cases h5:v = 5
    ·rw [if_pos h5] at hn
     obtain rfl:= Option.some.inj hn
     simp only [if_pos h5]; exact ev_const _
    ·rw [if_neg h5] at hn
     cases hn
theorem leaf_impl {v n:Int} (h:vOK b c d v n) {t:ByteArray} (hn:leafM v n = some t) (x:Int):Ev (fun k => impl_Heap_show.f k a b c d v n x) t:= by
 unfold leafM at hn
 apply ev_step
 by_cases h0:v = 0
 ·rw [if_pos h0] at hn
  obtain rfl:= Option.some.inj hn
  unfold vOK at h
  simp only [impl_Heap_show.f,if_pos h0,impl_dec n (by omega) (by omega),Option.bind_some]
  exact ev_const _
 ·rw [if_neg h0] at hn
  simp only [impl_Heap_show.f,if_neg h0]
  by_cases h1:v = 1
  ·rw [if_pos h1] at hn
   obtain rfl:= Option.some.inj hn
   simp only [if_pos h1]; exact ev_const _
  ·rw [if_neg h1] at hn
   simp only [if_neg h1]
   by_cases h2:v = 2
   ·rw [if_pos h2] at hn
    obtain rfl:= Option.some.inj hn
    simp only [if_pos h2]; exact ev_const _
   ·rw [if_neg h2] at hn
    simp only [if_neg h2]
    by_cases h5:v = 5
    ·rw [if_pos h5] at hn
     obtain rfl:= Option.some.inj hn
     simp only [if_pos h5]; exact ev_const _
    ·rw [if_neg h5] at hn
     cases hn
theorem leaf_cases {v n:Int} (hn:leafM v n = none):v ≠ 0 /\ v ≠ 1 /\ v ≠ 2 /\ v ≠ 5:= by
 unfold leafM at hn
 split at hn
 ·cases hn
 ·split at hn
  ·cases hn
  ·split at hn
   ·cases hn
   ·split at hn
    ·cases hn
    ·exact ⟨by assumption,by assumption,by assumption,by assumption⟩
theorem show_spec (ho:HOK a b c d) (m:Nat):m <= 8 -> ∀ v n,vOK b c d v n -> Ev (fun k => spec_l10Show.f k a b c d v n (m:Int)) (showM c m v n):= by
 induction m with
 | zero =>
  intro hm v n h
  simp only [showM]
  cases e:leafM v n with
  | some t => exact leaf_spec a b c d h e _
  | none =>
   obtain ⟨h0,h1,h2,h5⟩:= leaf_cases e
   apply ev_step
   simp only [spec_l10Show.f,if_neg h0,if_neg h1,if_neg h2,if_neg h5]
   exact ev_const _
 | succ m ih =>
  intro hm v n h
  simp only [showM]
  cases e:leafM v n with
  | some t => exact leaf_spec a b c d h e _
  | none =>
   obtain ⟨h0,h1,h2,h5⟩:= leaf_cases e
   obtain ⟨hv,hn0,hn1⟩:= leaf_none b c d h e
   obtain ⟨j,rfl⟩:∃ j:Nat,n = j:= ⟨n.toNat,by omega⟩
   obtain ⟨o1,o2⟩:= ho.two j (by omega)
   have s1:= show_size a b c d ho m _ _ o1
   have s2:= show_size a b c d ho m _ _ o2
   have hp:2 ^ m <= 2 ^ 8:= Nat.pow_le_pow_right (by omega) (by omega)
   have hm0:¬ ((m + 1:Nat):Int) <= 0:= by omega
   have w1:wrap64 (((m + 1:Nat):Int) - 1) = (m:Int):= by unfold wrap64; omega
   apply ev_step
   simp only [spec_l10Show.f,if_neg h0,if_neg h1,if_neg h2,if_neg h5,if_neg hm0,if_pos hn0,if_pos hn1,w1]
   refine ev_bind (ih (by omega) _ _ o1) ?_
   refine ev_bind (ih (by omega) _ _ o2) ?_
   simp only [Option.getD_none,headM]
   split
   ·rw [if_pos (by omega),if_pos (by simp only [ByteArray.size_append]; rw [show (⟨#[40,112,97,105,114,32]⟩:ByteArray).size = 6 from rfl]; omega),if_pos (by simp only [ByteArray.size_append]; rw [show (⟨#[40,112,97,105,114,32]⟩:ByteArray).size = 6 from rfl,show (⟨#[32]⟩:ByteArray).size = 1 from rfl]; omega),if_pos (by simp only [ByteArray.size_append]; rw [show (⟨#[40,112,97,105,114,32]⟩:ByteArray).size = 6 from rfl,show (⟨#[32]⟩:ByteArray).size = 1 from rfl]; omega)]
    exact ev_const _
   ·rw [if_pos (by omega),if_pos (by simp only [ByteArray.size_append]; rw [show (⟨#[40,99,111,110,115,32]⟩:ByteArray).size = 6 from rfl]; omega),if_pos (by simp only [ByteArray.size_append]; rw [show (⟨#[40,99,111,110,115,32]⟩:ByteArray).size = 6 from rfl,show (⟨#[32]⟩:ByteArray).size = 1 from rfl]; omega),if_pos (by simp only [ByteArray.size_append]; rw [show (⟨#[40,99,111,110,115,32]⟩:ByteArray).size = 6 from rfl,show (⟨#[32]⟩:ByteArray).size = 1 from rfl]; omega)]
    exact ev_const _
theorem show_impl (ho:HOK a b c d) (m:Nat):m <= 8 -> ∀ v n,vOK b c d v n -> Ev (fun k => impl_Heap_show.f k a b c d v n (m:Int)) (showM c m v n):= by
 induction m with
 | zero =>
  intro hm v n h
  simp only [showM]
  cases e:leafM v n with
  | some t => exact leaf_impl a b c d h e _
  | none =>
   obtain ⟨h0,h1,h2,h5⟩:= leaf_cases e
   apply ev_step
   simp only [impl_Heap_show.f,if_neg h0,if_neg h1,if_neg h2,if_neg h5]
   have z:∀ k x7,impl_Heap_show.j0 (k + 1) ((0:Nat):Int) x7 a b c d v n = some (⟨#[95]⟩:ByteArray):= fun k x7 => by rw [impl_Heap_show.j0,if_pos (show ((0:Nat):Int) = 0 from rfl)]
   apply ev_step
   simp only [z,ite_self]
   exact ev_const _
 | succ m ih =>
  intro hm v n h
  simp only [showM]
  cases e:leafM v n with
  | some t => exact leaf_impl a b c d h e _
  | none =>
   obtain ⟨h0,h1,h2,h5⟩:= leaf_cases e
   obtain ⟨hv,hn0,hn1⟩:= leaf_none b c d h e
   obtain ⟨j,rfl⟩:∃ j:Nat,n = j:= ⟨n.toNat,by omega⟩
   obtain ⟨o1,o2⟩:= ho.two j (by omega)
   have s1:= show_size a b c d ho m _ _ o1
   have s2:= show_size a b c d ho m _ _ o2
   have hp:2 ^ m <= 2 ^ 8:= Nat.pow_le_pow_right (by omega) (by omega)
   have hm0:¬ ((m + 1:Nat):Int) = 0:= by omega
   have w1:wrap64 (((m + 1:Nat):Int) - 1) = (m:Int):= by unfold wrap64; omega
   apply ev_step
   simp only [impl_Heap_show.f,if_neg h0,if_neg h1,if_neg h2,if_neg h5]
   have go:∀ x7:ByteArray,(((⟨#[40]⟩:ByteArray) ++ x7) ++ (⟨#[32]⟩:ByteArray)) = headM v -> x7.size = 4 -> Ev (fun k => impl_Heap_show.j0 k ((m + 1:Nat):Int) x7 a b c d v (j:Int)) (((((headM v) ++ showM c m (rd_T47 c j).f0.f0 (rd_T47 c j).f0.f1) ++ (⟨#[32]⟩:ByteArray)) ++ showM c m (rd_T47 c j).f1.f0 (rd_T47 c j).f1.f1) ++ (⟨#[41]⟩:ByteArray)):= by
    intro x7 hx hs
    have z1:((⟨#[40]⟩:ByteArray) ++ x7).size = 5:= by rw [ByteArray.size_append,hs]; rfl
    have z2:(⟨#[32]⟩:ByteArray).size = 1:= rfl
    apply ev_step
    simp only [impl_Heap_show.j0,if_neg hm0,if_pos hn0,if_pos hn1,w1]
    simp only [if_pos (show 1 + x7.size <= 9223372036854775807 by omega),if_pos (show ((⟨#[40]⟩:ByteArray) ++ x7).size + 1 <= 9223372036854775807 by omega),hx]
    refine ev_bind (ih (by omega) _ _ o1) ?_
    simp only [if_pos (show (headM v).size + (showM c m (rd_T47 c j).f0.f0 (rd_T47 c j).f0.f1).size <= 9223372036854775807 by rw [head_size]; omega),if_pos (show ((headM v) ++ (showM c m (rd_T47 c j).f0.f0 (rd_T47 c j).f0.f1)).size + 1 <= 9223372036854775807 by simp only [ByteArray.size_append]; rw [head_size]; omega)]
    refine ev_bind (ih (by omega) _ _ o2) ?_
    rw [if_pos (by simp only [ByteArray.size_append]; rw [head_size]; omega),if_pos (by simp only [ByteArray.size_append]; rw [head_size]; omega)]
    exact ev_const _
   simp only [Option.getD_none]
   rcases hv with hv | hv
   ·simp only [if_neg (show ¬ v = 4 by omega)]
    exact go _ (by unfold headM; rw [if_pos hv]; rfl) rfl
   ·simp only [if_pos hv]
    exact go _ (by unfold headM; rw [if_neg (by omega)]; rfl) rfl
theorem showval_both (ha:a.length <= 1048576) (hb:b.length <= 1048576) (hc:c.length <= 1048576) (hd:d.length <= 1048576) (v n x:Int):∃ q,Ev (fun k => spec_ShowVal.f k a b c d v n x) q /\ Ev (fun k => impl_ShowVal.f k a b c d v n x) q:= by
 obtain ⟨q,h1,h2⟩:= heapok_both a b c d ha hb hc hd 5000001 (by omega)
 have e1:Ev (fun k => spec_HeapOk.f k a b c d) q:= ev_at 5000001 fun k hk => at_rounds (spec_HeapOk.mono a b c d) hk h1
 have e2:Ev (fun k => impl_HeapOk.f k a b c d) q:= ev_at 5000001 fun k hk => at_rounds (impl_HeapOk.mono a b c d) hk h2
 obtain ⟨p,h3,h4⟩:= valok_both a b c d v n 1 (by omega)
 have e3:Ev (fun k => spec_ValOk.f k a b c d v n) p:= ev_at 1 fun k hk => at_rounds (spec_ValOk.mono a b c d v n) hk h3
 have e4:Ev (fun k => impl_ValOk.f k a b c d v n) p:= ev_at 1 fun k hk => at_rounds (impl_ValOk.mono a b c d v n) hk h4
 cases q
 ·exact ⟨(⟨#[]⟩:ByteArray),ev_bind e1 (ev_const _),ev_bind e2 (ev_const _)⟩
 ·cases p
  ·exact ⟨(⟨#[]⟩:ByteArray),ev_bind e1 (ev_bind e3 (ev_const _)),ev_bind e2 (ev_bind e4 (ev_const _))⟩
  ·by_cases hx:x >= 0 /\ x <= 8
   ·obtain ⟨m,rfl⟩:∃ m:Nat,x = m:= ⟨x.toNat,by omega⟩
    have hv:= (valok_iff a b c d hb hc hd v n _ _ h3).1 rfl
    have ho:= heap_facts a b c d ha hb hc hd _ h1
    refine ⟨showM c m v n,ev_bind e1 (ev_bind e3 ?_),ev_bind e2 (ev_bind e4 ?_)⟩
    ·simp only [if_true,in_some,Option.bind_some,decide_eq_true hx]
     exact ev_bind (show_spec a b c d ho m (by omega) v n hv) (ev_const _)
    ·simp only [if_true,in_same,in_some,Option.bind_some,decide_eq_true hx]
     exact ev_bind (show_impl a b c d ho m (by omega) v n hv) (ev_const _)
   ·refine ⟨(⟨#[]⟩:ByteArray),ev_bind e1 (ev_bind e3 ?_),ev_bind e2 (ev_bind e4 ?_)⟩
    ·simp only [if_true,in_some,Option.bind_some,decide_eq_false hx]
     exact ev_const _
    ·simp only [if_true,in_same,in_some,Option.bind_some,decide_eq_false hx]
     exact ev_const _
end
theorem FnExactShowVal:Pure:= by
 intro a b c d v n x ⟨ha,_⟩ ⟨hb,_⟩ ⟨hc,_⟩ ⟨hd,_⟩ _ _ _
 refine Ev.rounds ?_
 unfold laws_FnExactShowVal.f
 obtain ⟨s,h1,h2⟩:= sz_heap a b c d ha hb hc hd
 simp only [h1,Option.bind_some]
 by_cases z:s < 0
 ·simp only [if_pos z]; exact ev_const _
 ·simp only [if_neg z]
  obtain ⟨la,lb,lc,ld⟩:= h2 (by omega)
  obtain ⟨q,h7,h8⟩:= showval_both (a.map cEnvCell) (b.map cClo) (c.map cTwo) (d.map cVal) (by simpa using la) (by simpa using lb) (by simpa using lc) (by simpa using ld) v n x
  have et:Ev (fun k => laws_toHeap.f k a b c d) (a.map cEnvCell,b.map cClo,c.map cTwo,d.map cVal):= ev_at 1048577 fun k hk => to_heap a b c d la lb lc ld k (by omega)
  refine ev_bind et ?_
  simp only [laws_toVal.f,Option.bind_some]
  refine ev_bind h7 (ev_bind et (ev_bind h8 ?_))
  simp only [if_true]
  refine ev_bind et (ev_bind (ev_at 1048577 fun k hk => eq_heap (a.map cEnvCell) (b.map cClo) (c.map cTwo) (d.map cVal) (by simpa using la) (by simpa using lb) (by simpa using lc) (by simpa using ld) k (by omega)) ?_)
  exact ev_const _
end Go.Proofs.YtlhofeikcaejpaaDoor.Pure

