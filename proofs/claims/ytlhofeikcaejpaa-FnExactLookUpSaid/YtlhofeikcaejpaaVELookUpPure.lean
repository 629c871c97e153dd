/- PureFnExactLookUp, of the words and walks that the law FnExactLookUp needs; made by this session's program out of printed texts. -/

import Derived.Test.YtlhofeikcaejpaaVELookUpSay
import Derived.Laws.Strings
import Derived.Laws.BitsLemmas
set_option linter.unusedVariables false
set_option linter.unusedSimpArgs false
namespace Go.Proofs.Ytlhofeikcaejpaa.Pure
open Go.RowKit Go.Proofs.Ytlhofeikcaejpaa.PFnExactLookUp Go.Proofs.YtlhofeikcaejpaaW.PrintWords Go.Proofs.YtlhofeikcaejpaaW.PrintLast Go.Proofs.Ytlhofeikcaejpaa.SayFnExactLookUp
theorem wrap_next (i:Nat) (h:i < 4611686018427387904):wrap64 ((i:Int) + 1) = ((i + 1:Nat):Int):= by unfold wrap64; omega
theorem set_grown {α:Type} {x m:List α} {i:Nat} (hl:x.length = m.length) (h:∀ j,j < i -> x[j]? = m[j]?) (hi:i < m.length) {v:α} (hv:m[i]? = some v):(x.set i v).length = m.length /\ ∀ j,j < i + 1 -> (x.set i v)[j]? = m[j]?:= by
 refine ⟨by rw [List.length_set,hl],fun j hj => ?_⟩
 by_cases e:j = i
 ·subst e
  rw [List.getElem?_set_self (by omega),hv]
 ·rw [List.getElem?_set_ne (by omega)]
  exact h j (by omega)
theorem all_grown {α:Type} {x m:List α} (hl:x.length = m.length) (h:∀ j,j < m.length -> x[j]? = m[j]?):x = m:= by
 apply List.ext_getElem? ; intro j
 by_cases hj:j < m.length
 ·exact h j hj
 ·rw [List.getElem?_eq_none (by omega),List.getElem?_eq_none (by omega)]
def cVal (x:S104):S49:= ⟨x.f0,x.f1⟩
theorem rdlVal_get (xs:List S104) (i:Nat) (h:i < xs.length):rd_T104 xs (i:Int) = xs[i]:= by
 unfold rd_T104
 simp [List.getD_eq_getElem?_getD,List.getElem?_eq_getElem h]
theorem toVal_loop (l:List S104) (hn:l.length <= 1048576) (d:Nat):∀ k (i:Nat) (x:List S49),i + d = l.length -> x.length = (l.map cVal).length -> (∀ j,j < i -> x[j]? = (l.map cVal)[j]?) -> d < k ->
  laws_toValS.l0 k l x i = some (l.map cVal):= by
 induction d with
 | zero =>
  intro k i x hd hx hp hk
  obtain ⟨k,rfl⟩:∃ m,k = m + 1:= ⟨k - 1,by omega⟩
  have c:¬ (i:Int) < (l.length:Int):= by omega
  simp only [laws_toValS.l0,if_neg c]
  rw [all_grown hx (fun j hj => hp j (by simp at hj; omega))]
 | succ d ih =>
  intro k i x hd hx hp hk
  obtain ⟨k,rfl⟩:∃ m,k = m + 1:= ⟨k - 1,by omega⟩
  have hxl:x.length = l.length:= by simpa using hx
  have c:(i:Int) < (l.length:Int):= by omega
  have c2:(i:Int) < (x.length:Int):= by omega
  have hi:i < l.length:= by omega
  have c0:0 <= (i:Int):= Int.natCast_nonneg i
  simp only [laws_toValS.l0,laws_toVal.f,Option.bind_some,if_pos c,if_pos c0,if_pos c2,rdlVal_get l i hi,wrap_next i (by omega),Int.toNat_natCast]
  obtain ⟨h1,h2⟩:= set_grown (v:= cVal l[i]) hx hp (by simpa using hi) (by simp [List.getElem?_eq_getElem hi])
  exact ih k (i + 1) _ (by omega) h1 h2 (by omega)
theorem toVal_all (l:List S104) (hn:l.length <= 1048576) (k:Nat) (hk:1048576 < k):laws_toValS.f k l = some (l.map cVal):= by
 unfold laws_toValS.f
 have c1:0 <= (l.length:Int):= Int.natCast_nonneg _
 simp only [Int.toNat_natCast]
 rw [if_pos c1,if_pos (by omega)]
 exact toVal_loop l hn l.length k 0 _ (by omega) (by simp) (fun j hj => by omega) (by omega)
def cEnvCell (x:S106):S97:= ⟨x.f0,x.f1,cVal x.f2,x.f3⟩
theorem rdlEnvCell_get (xs:List S106) (i:Nat) (h:i < xs.length):rd_T106 xs (i:Int) = xs[i]:= by
 unfold rd_T106
 simp [List.getD_eq_getElem?_getD,List.getElem?_eq_getElem h]
theorem toEnvCell_loop (l:List S106) (hn:l.length <= 1048576) (d:Nat):∀ k (i:Nat) (x:List S97),i + d = l.length -> x.length = (l.map cEnvCell).length -> (∀ j,j < i -> x[j]? = (l.map cEnvCell)[j]?) -> d < k ->
  laws_toEnvCellS.l0 k l x i = some (l.map cEnvCell):= by
 induction d with
 | zero =>
  intro k i x hd hx hp hk
  obtain ⟨k,rfl⟩:∃ m,k = m + 1:= ⟨k - 1,by omega⟩
  have c:¬ (i:Int) < (l.length:Int):= by omega
  simp only [laws_toEnvCellS.l0,if_neg c]
  rw [all_grown hx (fun j hj => hp j (by simp at hj; omega))]
 | succ d ih =>
  intro k i x hd hx hp hk
  obtain ⟨k,rfl⟩:∃ m,k = m + 1:= ⟨k - 1,by omega⟩
  have hxl:x.length = l.length:= by simpa using hx
  have c:(i:Int) < (l.length:Int):= by omega
  have c2:(i:Int) < (x.length:Int):= by omega
  have hi:i < l.length:= by omega
  have c0:0 <= (i:Int):= Int.natCast_nonneg i
  simp only [laws_toEnvCellS.l0,laws_toEnvCell.f,laws_toVal.f,Option.bind_some,if_pos c,if_pos c0,if_pos c2,rdlEnvCell_get l i hi,wrap_next i (by omega),Int.toNat_natCast]
  obtain ⟨h1,h2⟩:= set_grown (v:= cEnvCell l[i]) hx hp (by simpa using hi) (by simp [List.getElem?_eq_getElem hi])
  exact ih k (i + 1) _ (by omega) h1 h2 (by omega)
theorem toEnvCell_all (l:List S106) (hn:l.length <= 1048576) (k:Nat) (hk:1048576 < k):laws_toEnvCellS.f k l = some (l.map cEnvCell):= by
 unfold laws_toEnvCellS.f
 have c1:0 <= (l.length:Int):= Int.natCast_nonneg _
 simp only [Int.toNat_natCast]
 rw [if_pos c1,if_pos (by omega)]
 exact toEnvCell_loop l hn l.length k 0 _ (by omega) (by simp) (fun j hj => by omega) (by omega)
def cClo (x:S108):S100:= ⟨x.f0,x.f1⟩
theorem rdlClo_get (xs:List S108) (i:Nat) (h:i < xs.length):rd_T108 xs (i:Int) = xs[i]:= by
 unfold rd_T108
 simp [List.getD_eq_getElem?_getD,List.getElem?_eq_getElem h]
theorem toClo_loop (l:List S108) (hn:l.length <= 1048576) (d:Nat):∀ k (i:Nat) (x:List S100),i + d = l.length -> x.length = (l.map cClo).length -> (∀ j,j < i -> x[j]? = (l.map cClo)[j]?) -> d < k ->
  laws_toCloS.l0 k l x i = some (l.map cClo):= by
 induction d with
 | zero =>
  intro k i x hd hx hp hk
  obtain ⟨k,rfl⟩:∃ m,k = m + 1:= ⟨k - 1,by omega⟩
  have c:¬ (i:Int) < (l.length:Int):= by omega
  simp only [laws_toCloS.l0,if_neg c]
  rw [all_grown hx (fun j hj => hp j (by simp at hj; omega))]
 | succ d ih =>
  intro k i x hd hx hp hk
  obtain ⟨k,rfl⟩:∃ m,k = m + 1:= ⟨k - 1,by omega⟩
  have hxl:x.length = l.length:= by simpa using hx
  have c:(i:Int) < (l.length:Int):= by omega
  have c2:(i:Int) < (x.length:Int):= by omega
  have hi:i < l.length:= by omega
  have c0:0 <= (i:Int):= Int.natCast_nonneg i
  simp only [laws_toCloS.l0,laws_toClo.f,Option.bind_some,if_pos c,if_pos c0,if_pos c2,rdlClo_get l i hi,wrap_next i (by omega),Int.toNat_natCast]
  obtain ⟨h1,h2⟩:= set_grown (v:= cClo l[i]) hx hp (by simpa using hi) (by simp [List.getElem?_eq_getElem hi])
  exact ih k (i + 1) _ (by omega) h1 h2 (by omega)
theorem toClo_all (l:List S108) (hn:l.length <= 1048576) (k:Nat) (hk:1048576 < k):laws_toCloS.f k l = some (l.map cClo):= by
 unfold laws_toCloS.f
 have c1:0 <= (l.length:Int):= Int.natCast_nonneg _
 simp only [Int.toNat_natCast]
 rw [if_pos c1,if_pos (by omega)]
 exact toClo_loop l hn l.length k 0 _ (by omega) (by simp) (fun j hj => by omega) (by omega)
def cTwo (x:S111):S102:= ⟨cVal x.f0,cVal x.f1⟩
theorem rdlTwo_get (xs:List S111) (i:Nat) (h:i < xs.length):rd_T111 xs (i:Int) = xs[i]:= by
 unfold rd_T111
 simp [List.getD_eq_getElem?_getD,List.getElem?_eq_getElem h]
theorem toTwo_loop (l:List S111) (hn:l.length <= 1048576) (d:Nat):∀ k (i:Nat) (x:List S102),i + d = l.length -> x.length = (l.map cTwo).length -> (∀ j,j < i -> x[j]? = (l.map cTwo)[j]?) -> d < k ->
  laws_toTwoS.l0 k l x i = some (l.map cTwo):= by
 induction d with
 | zero =>
  intro k i x hd hx hp hk
  obtain ⟨k,rfl⟩:∃ m,k = m + 1:= ⟨k - 1,by omega⟩
  have c:¬ (i:Int) < (l.length:Int):= by omega
  simp only [laws_toTwoS.l0,if_neg c]
  rw [all_grown hx (fun j hj => hp j (by simp at hj; omega))]
 | succ d ih =>
  intro k i x hd hx hp hk
  obtain ⟨k,rfl⟩:∃ m,k = m + 1:= ⟨k - 1,by omega⟩
  have hxl:x.length = l.length:= by simpa using hx
  have c:(i:Int) < (l.length:Int):= by omega
  have c2:(i:Int) < (x.length:Int):= by omega
  have hi:i < l.length:= by omega
  have c0:0 <= (i:Int):= Int.natCast_nonneg i
  simp only [laws_toTwoS.l0,laws_toTwo.f,laws_toVal.f,Option.bind_some,if_pos c,if_pos c0,if_pos c2,rdlTwo_get l i hi,wrap_next i (by omega),Int.toNat_natCast]
  obtain ⟨h1,h2⟩:= set_grown (v:= cTwo l[i]) hx hp (by simpa using hi) (by simp [List.getElem?_eq_getElem hi])
  exact ih k (i + 1) _ (by omega) h1 h2 (by omega)
theorem toTwo_all (l:List S111) (hn:l.length <= 1048576) (k:Nat) (hk:1048576 < k):laws_toTwoS.f k l = some (l.map cTwo):= by
 unfold laws_toTwoS.f
 have c1:0 <= (l.length:Int):= Int.natCast_nonneg _
 simp only [Int.toNat_natCast]
 rw [if_pos c1,if_pos (by omega)]
 exact toTwo_loop l hn l.length k 0 _ (by omega) (by simp) (fun j hj => by omega) (by omega)
theorem eqVal_loop (l:List S49) (hn:l.length <= 1048576) (d:Nat):∀ k (i:Nat),i + d = l.length -> d < k -> laws_eqValS.l0 k l l i = some true:= by
 induction d with
 | zero =>
  intro k i hd hk
  obtain ⟨k,rfl⟩:∃ m,k = m + 1:= ⟨k - 1,by omega⟩
  have c:¬ (i:Int) < (l.length:Int):= by omega
  simp only [laws_eqValS.l0,if_neg c]
 | succ d ih =>
  intro k i hd hk
  obtain ⟨k,rfl⟩:∃ m,k = m + 1:= ⟨k - 1,by omega⟩
  have c:(i:Int) < (l.length:Int):= by omega
  have c0:0 <= (i:Int):= Int.natCast_nonneg i
  simp only [laws_eqValS.l0,laws_eqVal.f,if_true,Option.bind_some,if_pos c,if_pos c0,wrap_next i (by omega)]
  exact ih k (i + 1) (by omega) (by omega)
theorem eqVal_all (l:List S49) (hn:l.length <= 1048576) (k:Nat) (hk:1048576 < k):laws_eqValS.f k l l = some true:= by
 unfold laws_eqValS.f
 rw [if_pos rfl]
 exact eqVal_loop l hn l.length k 0 (by omega) (by omega)
theorem eqEnvCell_loop (l:List S97) (hn:l.length <= 1048576) (d:Nat):∀ k (i:Nat),i + d = l.length -> d < k -> laws_eqEnvCellS.l0 k l l i = some true:= by
 induction d with
 | zero =>
  intro k i hd hk
  obtain ⟨k,rfl⟩:∃ m,k = m + 1:= ⟨k - 1,by omega⟩
  have c:¬ (i:Int) < (l.length:Int):= by omega
  simp only [laws_eqEnvCellS.l0,if_neg c]
 | succ d ih =>
  intro k i hd hk
  obtain ⟨k,rfl⟩:∃ m,k = m + 1:= ⟨k - 1,by omega⟩
  have c:(i:Int) < (l.length:Int):= by omega
  have c0:0 <= (i:Int):= Int.natCast_nonneg i
  simp only [laws_eqEnvCellS.l0,laws_eqEnvCell.f,laws_eqVal.f,if_true,Option.bind_some,if_pos c,if_pos c0,wrap_next i (by omega)]
  exact ih k (i + 1) (by omega) (by omega)
theorem eqEnvCell_all (l:List S97) (hn:l.length <= 1048576) (k:Nat) (hk:1048576 < k):laws_eqEnvCellS.f k l l = some true:= by
 unfold laws_eqEnvCellS.f
 rw [if_pos rfl]
 exact eqEnvCell_loop l hn l.length k 0 (by omega) (by omega)
theorem eqClo_loop (l:List S100) (hn:l.length <= 1048576) (d:Nat):∀ k (i:Nat),i + d = l.length -> d < k -> laws_eqCloS.l0 k l l i = some true:= by
 induction d with
 | zero =>
  intro k i hd hk
  obtain ⟨k,rfl⟩:∃ m,k = m + 1:= ⟨k - 1,by omega⟩
  have c:¬ (i:Int) < (l.length:Int):= by omega
  simp only [laws_eqCloS.l0,if_neg c]
 | succ d ih =>
  intro k i hd hk
  obtain ⟨k,rfl⟩:∃ m,k = m + 1:= ⟨k - 1,by omega⟩
  have c:(i:Int) < (l.length:Int):= by omega
  have c0:0 <= (i:Int):= Int.natCast_nonneg i
  simp only [laws_eqCloS.l0,laws_eqClo.f,if_true,Option.bind_some,if_pos c,if_pos c0,wrap_next i (by omega)]
  exact ih k (i + 1) (by omega) (by omega)
theorem eqClo_all (l:List S100) (hn:l.length <= 1048576) (k:Nat) (hk:1048576 < k):laws_eqCloS.f k l l = some true:= by
 unfold laws_eqCloS.f
 rw [if_pos rfl]
 exact eqClo_loop l hn l.length k 0 (by omega) (by omega)
theorem eqTwo_loop (l:List S102) (hn:l.length <= 1048576) (d:Nat):∀ k (i:Nat),i + d = l.length -> d < k -> laws_eqTwoS.l0 k l l i = some true:= by
 induction d with
 | zero =>
  intro k i hd hk
  obtain ⟨k,rfl⟩:∃ m,k = m + 1:= ⟨k - 1,by omega⟩
  have c:¬ (i:Int) < (l.length:Int):= by omega
  simp only [laws_eqTwoS.l0,if_neg c]
 | succ d ih =>
  intro k i hd hk
  obtain ⟨k,rfl⟩:∃ m,k = m + 1:= ⟨k - 1,by omega⟩
  have c:(i:Int) < (l.length:Int):= by omega
  have c0:0 <= (i:Int):= Int.natCast_nonneg i
  simp only [laws_eqTwoS.l0,laws_eqTwo.f,laws_eqVal.f,if_true,Option.bind_some,if_pos c,if_pos c0,wrap_next i (by omega)]
  exact ih k (i + 1) (by omega) (by omega)
theorem eqTwo_all (l:List S102) (hn:l.length <= 1048576) (k:Nat) (hk:1048576 < k):laws_eqTwoS.f k l l = some true:= by
 unfold laws_eqTwoS.f
 rw [if_pos rfl]
 exact eqTwo_loop l hn l.length k 0 (by omega) (by omega)
theorem sz_heap (a:List S106) (b:List S108) (c:List S111) (d:List S104) (ha:a.length <= 9223372036854775807) (hb:b.length <= 9223372036854775807) (hc:c.length <= 9223372036854775807) (hd:d.length <= 9223372036854775807) :
  ∃ r,laws_szHeap.f a b c d 1048576 = some r /\ (0 <= r -> a.length <= 1048576 /\ b.length <= 1048576 /\ c.length <= 1048576 /\ d.length <= 1048576):= by
 simp only [laws_szHeap.f,laws_szEnvCellS.f,laws_szCloS.f,laws_szTwoS.f,laws_szValS.f]
 have e1:wrap64 (1048576 - (a.length:Int)) = 1048576 - (a.length:Int):= by unfold wrap64; omega
 rw [e1]
 by_cases h1:1048576 - (a.length:Int) < 0
 ·simp only [if_pos h1,Option.bind_some]
  exact ⟨-1,by simp,fun h => by omega⟩
 ·simp only [if_neg h1,Option.bind_some]
  have e2:wrap64 (1048576 - (a.length:Int) - (b.length:Int)) = 1048576 - (a.length:Int) - (b.length:Int):= by unfold wrap64; omega
  rw [e2]
  by_cases h2:1048576 - (a.length:Int) - (b.length:Int) < 0
  ·simp only [if_pos h2,Option.bind_some]
   exact ⟨-1,by simp,fun h => by omega⟩
  ·simp only [if_neg h2,Option.bind_some]
   have e3:wrap64 (1048576 - (a.length:Int) - (b.length:Int) - (c.length:Int)) = 1048576 - (a.length:Int) - (b.length:Int) - (c.length:Int):= by unfold wrap64; omega
   rw [e3]
   by_cases h3:1048576 - (a.length:Int) - (b.length:Int) - (c.length:Int) < 0
   ·simp only [if_pos h3,Option.bind_some]
    exact ⟨-1,by simp,fun h => by omega⟩
   ·simp only [if_neg h3,Option.bind_some]
    have e4:wrap64 (1048576 - (a.length:Int) - (b.length:Int) - (c.length:Int) - (d.length:Int)) = 1048576 - (a.length:Int) - (b.length:Int) - (c.length:Int) - (d.length:Int):= by unfold wrap64; omega
    rw [e4]
    by_cases h4:1048576 - (a.length:Int) - (b.length:Int) - (c.length:Int) - (d.length:Int) < 0
    ·simp only [if_pos h4,Option.bind_some]
     exact ⟨-1,by simp,fun h => by omega⟩
    ·simp only [if_neg h4,Option.bind_some]
     exact ⟨_,rfl,fun h => by omega⟩
theorem to_heap (a:List S106) (b:List S108) (c:List S111) (d:List S104) (ha:a.length <= 1048576) (hb:b.length <= 1048576) (hc:c.length <= 1048576) (hd:d.length <= 1048576) (k:Nat) (hk:1048576 < k) :
  laws_toHeap.f k a b c d = some (a.map cEnvCell,b.map cClo,c.map cTwo,d.map cVal):= by
 unfold laws_toHeap.f
 simp only [toEnvCell_all a ha k hk,toClo_all b hb k hk,toTwo_all c hc k hk,toVal_all d hd k hk,Option.bind_some]
theorem eq_heap (a:List S97) (b:List S100) (c:List S102) (d:List S49) (ha:a.length <= 1048576) (hb:b.length <= 1048576) (hc:c.length <= 1048576) (hd:d.length <= 1048576) (k:Nat) (hk:1048576 < k) :
  laws_eqHeap.f k a b c d a b c d = some true:= by
 unfold laws_eqHeap.f
 simp only [eqEnvCell_all a ha k hk,eqClo_all b hb k hk,eqTwo_all c hc k hk,eqVal_all d hd k hk,Option.bind_some,if_true]
theorem in_same (a b c:Int):impl_in.f a b c = spec_l1In.f a b c:= rfl
theorem in_some (a b c:Int):spec_l1In.f a b c = some (decide (a >= b /\ a <= c)):= by
 unfold spec_l1In.f
 by_cases h:a >= b
 ·simp [h]
 ·simp [h]
theorem valok_both (a:List S97) (b:List S100) (c:List S102) (d:List S49) (v n:Int) (k:Nat) (hk:1 <= k):∃ r,spec_ValOk.f k a b c d v n = some r /\ impl_ValOk.f k a b c d v n = some r:= by
 obtain ⟨k,rfl⟩:∃ m,k = m + 1:= ⟨k - 1,by omega⟩
 simp only [spec_ValOk.f,impl_ValOk.f,spec_ValOk.j0,impl_ValOk.j0,in_same,in_some,Option.bind_some]
 by_cases h0:v = 0
 ·simp [h0]
 ·by_cases h1:v = 1
  ·simp [h1]
  ·by_cases h2:v = 2
   ·simp [h2]
   ·by_cases h3:v = 3
    ·simp [h3]
    ·by_cases h4:v = 4
     ·simp [h4]
     ·by_cases h5:v = 5
      ·simp [h5]
      ·simp [h0,h1,h2,h3,h4,h5]
section
variable (a:List S97) (b:List S100) (c:List S102) (d:List S49)
theorem heap3 (hn:d.length <= 1048576) (m:Nat):∀ k (i:Nat),i + m = d.length -> m + 1 < k -> ∃ r,spec_HeapOk.l3 k i a b c d = some r /\ impl_HeapOk.l3 k d (d.length:Int) i a b c d = some r:= by
 induction m with
 | zero =>
  intro k i hd hk
  obtain ⟨k,rfl⟩:∃ m,k = m + 1:= ⟨k - 1,by omega⟩
  have cn:¬ (i:Int) < (d.length:Int):= by omega
  simp only [spec_HeapOk.l3,impl_HeapOk.l3,if_neg cn]
  exact ⟨true,rfl,rfl⟩
 | succ m ih =>
  intro k i hd hk
  obtain ⟨k,rfl⟩:∃ m,k = m + 1:= ⟨k - 1,by omega⟩
  have c1:(i:Int) < (d.length:Int):= by omega
  have c0:0 <= (i:Int):= Int.natCast_nonneg i
  simp only [spec_HeapOk.l3,impl_HeapOk.l3,if_pos c1,if_pos c0,wrap_next i (by omega)]
  obtain ⟨r,h1,h2⟩:= ih k (i + 1) (by omega) (by omega)
  obtain ⟨q,h3,h4⟩:= valok_both a b c d (rd_T49 d i).f0 (rd_T49 d i).f1 k (by omega)
  rw [h1,h2,h3,h4]
  cases q
  ·exact ⟨false,rfl,rfl⟩
  ·exact ⟨r,rfl,rfl⟩
theorem heap2 (hn:c.length <= 1048576) (hn3:d.length <= 1048576) (m:Nat):∀ k (i:Nat),i + m = c.length -> m + d.length + 2 < k -> ∃ r,spec_HeapOk.l2 k i a b c d = some r /\ impl_HeapOk.l2 k c (c.length:Int) i a b c d = some r:= by
 induction m with
 | zero =>
  intro k i hd hk
  obtain ⟨k,rfl⟩:∃ m,k = m + 1:= ⟨k - 1,by omega⟩
  have cn:¬ (i:Int) < (c.length:Int):= by omega
  simp only [spec_HeapOk.l2,impl_HeapOk.l2,if_neg cn]
  exact heap3 a b c d hn3 d.length k 0 (by omega) (by omega)
 | succ m ih =>
  intro k i hd hk
  obtain ⟨k,rfl⟩:∃ m,k = m + 1:= ⟨k - 1,by omega⟩
  have c1:(i:Int) < (c.length:Int):= by omega
  have c0:0 <= (i:Int):= Int.natCast_nonneg i
  simp only [spec_HeapOk.l2,impl_HeapOk.l2,if_pos c1,if_pos c0,wrap_next i (by omega)]
  obtain ⟨r,h1,h2⟩:= ih k (i + 1) (by omega) (by omega)
  obtain ⟨q,h3,h4⟩:= valok_both a b c d (rd_T102 c i).f0.f0 (rd_T102 c i).f0.f1 k (by omega)
  obtain ⟨q',h5,h6⟩:= valok_both a b c d (rd_T102 c i).f1.f0 (rd_T102 c i).f1.f1 k (by omega)
  rw [h1,h2,h3,h4,h5,h6]
  cases q
  ·exact ⟨false,rfl,rfl⟩
  ·cases q'
   ·exact ⟨false,rfl,rfl⟩
   ·exact ⟨r,rfl,rfl⟩
theorem heap1 (hn1:b.length <= 1048576) (hn:c.length <= 1048576) (hn3:d.length <= 1048576) (m:Nat):∀ k (i:Nat),i + m = b.length -> m + c.length + d.length + 3 < k -> ∃ r,spec_HeapOk.l1 k i a b c d = some r /\ impl_HeapOk.l1 k b (b.length:Int) i a b c d = some r:= by
 induction m with
 | zero =>
  intro k i hd hk
  obtain ⟨k,rfl⟩:∃ m,k = m + 1:= ⟨k - 1,by omega⟩
  have cn:¬ (i:Int) < (b.length:Int):= by omega
  simp only [spec_HeapOk.l1,impl_HeapOk.l1,if_neg cn]
  exact heap2 a b c d hn hn3 c.length k 0 (by omega) (by omega)
 | succ m ih =>
  intro k i hd hk
  obtain ⟨k,rfl⟩:∃ m,k = m + 1:= ⟨k - 1,by omega⟩
  have c1:(i:Int) < (b.length:Int):= by omega
  have c0:0 <= (i:Int):= Int.natCast_nonneg i
  simp only [spec_HeapOk.l1,impl_HeapOk.l1,if_pos c1,if_pos c0,wrap_next i (by omega),in_same,in_some,Option.bind_some]
  obtain ⟨r,h1,h2⟩:= ih k (i + 1) (by omega) (by omega)
  rw [h1,h2]
  split
  ·exact ⟨r,rfl,rfl⟩
  ·exact ⟨false,rfl,rfl⟩
theorem heap0 (hn0:a.length <= 1048576) (hn1:b.length <= 1048576) (hn:c.length <= 1048576) (hn3:d.length <= 1048576) (m:Nat):∀ k (i:Nat),i + m = a.length -> m + b.length + c.length + d.length + 4 < k -> ∃ r,spec_HeapOk.l0 k i a b c d = some r /\ impl_HeapOk.l0 k a (a.length:Int) i a b c d = some r:= by
 induction m with
 | zero =>
  intro k i hd hk
  obtain ⟨k,rfl⟩:∃ m,k = m + 1:= ⟨k - 1,by omega⟩
  have cn:¬ (i:Int) < (a.length:Int):= by omega
  simp only [spec_HeapOk.l0,impl_HeapOk.l0,if_neg cn]
  exact heap1 a b c d hn1 hn hn3 b.length k 0 (by omega) (by omega)
 | succ m ih =>
  intro k i hd hk
  obtain ⟨k,rfl⟩:∃ m,k = m + 1:= ⟨k - 1,by omega⟩
  have c1:(i:Int) < (a.length:Int):= by omega
  have c0:0 <= (i:Int):= Int.natCast_nonneg i
  simp only [spec_HeapOk.l0,impl_HeapOk.l0,if_pos c1,if_pos c0,wrap_next i (by omega),in_same,in_some,Option.bind_some]
  obtain ⟨r,h1,h2⟩:= ih k (i + 1) (by omega) (by omega)
  obtain ⟨q,h3,h4⟩:= valok_both a b c d (rd_T97 a i).f2.f0 (rd_T97 a i).f2.f1 k (by omega)
  rw [h1,h2,h3,h4]
  simp only [Option.bind_some]
  cases q
  ·refine ⟨false,?_,rfl⟩
   split <;> rfl
  ·split
   ·exact ⟨r,rfl,by simp⟩
   ·exact ⟨false,rfl,by simp⟩
theorem heapok_both (hn0:a.length <= 1048576) (hn1:b.length <= 1048576) (hn:c.length <= 1048576) (hn3:d.length <= 1048576) (k:Nat) (hk:5000000 < k):∃ r,spec_HeapOk.f k a b c d = some r /\ impl_HeapOk.f k a b c d = some r :=
 heap0 a b c d hn0 hn1 hn hn3 a.length k 0 (by omega) (by omega)
end
section
variable (a:List S97) (b:List S100) (c:List S102) (d:List S49)
def vOK (v n:Int):Prop:= (v = 0 /\ 0 <= n /\ n <= 65535) \/ (v = 1 /\ 0 <= n /\ n < b.length) \/ (v = 2 /\ n = 0) \/ ((v = 3 \/ v = 4) /\ 0 <= n /\ n < c.length) \/ (v = 5 /\ 0 <= n /\ n < d.length)
theorem valok_iff (hb:b.length <= 1048576) (hc:c.length <= 1048576) (hd:d.length <= 1048576) (v n:Int) (k:Nat) (r:Bool) (h:spec_ValOk.f k a b c d v n = some r):r = true ↔ vOK b c d v n:= by
 have w1:wrap64 ((b.length:Int) - 1) = (b.length:Int) - 1:= by unfold wrap64; omega
 have w2:wrap64 ((c.length:Int) - 1) = (c.length:Int) - 1:= by unfold wrap64; omega
 have w3:wrap64 ((d.length:Int) - 1) = (d.length:Int) - 1:= by unfold wrap64; omega
 unfold vOK
 simp only [spec_ValOk.f,in_some,Option.bind_some,w1] at h
 by_cases h0:v = 0
 ·simp only [if_pos h0,Option.some.injEq] at h
  subst h; simp only [decide_eq_true_eq]; omega
 ·by_cases h1:v = 1
  ·simp only [if_neg h0,if_pos h1,Option.some.injEq] at h
   subst h; simp only [decide_eq_true_eq]; omega
  ·by_cases h2:v = 2
   ·simp only [if_neg h0,if_neg h1,if_pos h2,Option.some.injEq] at h
    subst h; simp only [beq_iff_eq]; omega
   ·simp only [if_neg h0,if_neg h1,if_neg h2] at h
    cases k with
    | zero => simp only [spec_ValOk.j0] at h; split at h <;> exact absurd h (by simp)
    | succ k =>
     simp only [spec_ValOk.j0,in_some,Option.bind_some,w2,w3] at h
     by_cases h3:v = 3
     ·rw [if_pos h3,if_pos (by simp [h3])] at h
      obtain rfl:= Option.some.inj h
      simp only [decide_eq_true_eq]; omega
     ·rw [if_neg h3] at h
      by_cases h4:v = 4
      ·rw [if_pos (by simp [h4])] at h
       obtain rfl:= Option.some.inj h
       simp only [decide_eq_true_eq]; omega
      ·rw [if_neg (by simp [h4])] at h
       by_cases h5:v = 5
       ·rw [if_pos h5] at h
        obtain rfl:= Option.some.inj h
        simp only [decide_eq_true_eq]; omega
       ·rw [if_neg h5] at h
        obtain rfl:= Option.some.inj h
        simp; omega
theorem hf2 (hb:b.length <= 1048576) (hc:c.length <= 1048576) (hd:d.length <= 1048576):∀ (k i:Nat),spec_HeapOk.l2 k i a b c d = some true -> (∀ j:Nat,i <= j -> j < c.length -> vOK b c d (rd_T102 c j).f0.f0 (rd_T102 c j).f0.f1 /\ vOK b c d (rd_T102 c j).f1.f0 (rd_T102 c j).f1.f1) /\ ∃ q,spec_HeapOk.l3 q 0 a b c d = some true:= by
 intro k
 induction k with
 | zero => intro i h; simp [spec_HeapOk.l2] at h
 | succ k ih =>
  intro i h
  by_cases c1:(i:Int) < (c.length:Int)
  ·have c0:0 <= (i:Int):= Int.natCast_nonneg i
   simp only [spec_HeapOk.l2,if_pos c1,if_pos c0,wrap_next i (by omega)] at h
   obtain ⟨t,h1,h2⟩:= Option.bind_eq_some_iff.1 h
   cases t
   ·simp at h2
   ·rw [if_pos rfl] at h2
    obtain ⟨t,h3,h4⟩:= Option.bind_eq_some_iff.1 h2
    cases t
    ·simp at h4
    ·rw [if_pos rfl] at h4
     obtain ⟨g1,g2⟩:= ih (i + 1) h4
     refine ⟨fun j hi hj => ?_,g2⟩
     by_cases e:i = j
     ·subst e
      exact ⟨(valok_iff a b c d hb hc hd _ _ _ _ h1).1 rfl,(valok_iff a b c d hb hc hd _ _ _ _ h3).1 rfl⟩
     ·exact g1 j (by omega) hj
  ·simp only [spec_HeapOk.l2,if_neg c1] at h
   exact ⟨fun j hi hj => by omega,k,h⟩
theorem hf1 (ha:a.length <= 1048576) (hb:b.length <= 1048576):∀ (k i:Nat),spec_HeapOk.l1 k i a b c d = some true -> ∃ q,spec_HeapOk.l2 q 0 a b c d = some true:= by
 intro k
 induction k with
 | zero => intro i h; simp [spec_HeapOk.l1] at h
 | succ k ih =>
  intro i h
  by_cases c1:(i:Int) < (b.length:Int)
  ·have c0:0 <= (i:Int):= Int.natCast_nonneg i
   simp only [spec_HeapOk.l1,if_pos c1,if_pos c0,wrap_next i (by omega)] at h
   obtain ⟨t,h1,h2⟩:= Option.bind_eq_some_iff.1 h
   cases t
   ·simp at h2
   ·rw [if_pos rfl] at h2
    exact ih (i + 1) h2
  ·simp only [spec_HeapOk.l1,if_neg c1] at h
   exact ⟨k,h⟩
theorem hf0 (ha:a.length <= 1048576) (hb:b.length <= 1048576) (hc:c.length <= 1048576) (hd:d.length <= 1048576):∀ (k i:Nat),spec_HeapOk.l0 k i a b c d = some true -> (∀ j:Nat,i <= j -> j < a.length -> -1 <= (rd_T97 a j).f3 /\ (rd_T97 a j).f3 < j /\ vOK b c d (rd_T97 a j).f2.f0 (rd_T97 a j).f2.f1) /\ ∃ q,spec_HeapOk.l1 q 0 a b c d = some true:= by
 intro k
 induction k with
 | zero => intro i h; simp [spec_HeapOk.l0] at h
 | succ k ih =>
  intro i h
  by_cases c1:(i:Int) < (a.length:Int)
  ·have c0:0 <= (i:Int):= Int.natCast_nonneg i
   have w1:wrap64 ((i:Int) - 1) = (i:Int) - 1:= by unfold wrap64; omega
   simp only [spec_HeapOk.l0,if_pos c1,if_pos c0,wrap_next i (by omega),in_some,Option.bind_some,w1] at h
   by_cases hx:(rd_T97 a i).f3 >= -1 /\ (rd_T97 a i).f3 <= (i:Int) - 1
   ·rw [if_pos (by simpa using hx)] at h
    obtain ⟨t,h3,h4⟩:= Option.bind_eq_some_iff.1 h
    cases t
    ·simp at h4
    ·rw [if_pos rfl] at h4
     obtain ⟨g1,g2⟩:= ih (i + 1) h4
     refine ⟨fun j hi hj => ?_,g2⟩
     by_cases e:i = j
     ·subst e
      exact ⟨hx.1,by omega,(valok_iff a b c d hb hc hd _ _ _ _ h3).1 rfl⟩
     ·exact g1 j (by omega) hj
   ·rw [if_neg (by simpa using hx)] at h
    simp at h
  ·simp only [spec_HeapOk.l0,if_neg c1] at h
   exact ⟨fun j hi hj => by omega,k,h⟩
structure HOK:Prop where
 env:∀ j:Nat,j < a.length -> -1 <= (rd_T97 a j).f3 /\ (rd_T97 a j).f3 < j /\ vOK b c d (rd_T97 a j).f2.f0 (rd_T97 a j).f2.f1
 two:∀ j:Nat,j < c.length -> vOK b c d (rd_T102 c j).f0.f0 (rd_T102 c j).f0.f1 /\ vOK b c d (rd_T102 c j).f1.f0 (rd_T102 c j).f1.f1
theorem heap_facts (ha:a.length <= 1048576) (hb:b.length <= 1048576) (hc:c.length <= 1048576) (hd:d.length <= 1048576) (k:Nat) (h:spec_HeapOk.f k a b c d = some true):HOK a b c d:= by
 obtain ⟨g1,q,h1⟩:= hf0 a b c d ha hb hc hd k 0 h
 obtain ⟨q,h2⟩:= hf1 a b c d ha hb q 0 h1
 obtain ⟨g2,q,h3⟩:= hf2 a b c d hb hc hd q 0 h2
 exact ⟨fun j hj => g1 j (by omega) hj,fun j hj => g2 j (by omega) hj⟩
end
section
variable (a:List S97) (b:List S100) (c:List S102) (d:List S49)
theorem look_both (ho:HOK a b c d) (n r:Int) (m:Nat):∀ (k:Nat) (e:Int),e < a.length -> e < m -> m < k -> ∃ q,spec_l10Look.l0 k e a b c d n r = some q /\ impl_Heap_lookUp.l0 k e a b c d n r = some q:= by
 induction m with
 | zero =>
  intro k e h1 h2 hk
  obtain ⟨k,rfl⟩:∃ m,k = m + 1:= ⟨k - 1,by omega⟩
  have cn:¬ e >= 0:= by omega
  simp only [spec_l10Look.l0,impl_Heap_lookUp.l0,if_neg cn]
  exact ⟨_,rfl,rfl⟩
 | succ m ih =>
  intro k e h1 h2 hk
  obtain ⟨k,rfl⟩:∃ m,k = m + 1:= ⟨k - 1,by omega⟩
  by_cases cn:e >= 0
  ·obtain ⟨j,rfl⟩:∃ j:Nat,e = j:= ⟨e.toNat,by omega⟩
   obtain ⟨x1,x2,x3⟩:= ho.env j (by omega)
   obtain ⟨q,q1,q2⟩:= ih k (rd_T97 a j).f3 (by omega) (by omega) (by omega)
   have cn':0 <= (j:Int):= cn
   simp only [spec_l10Look.l0,impl_Heap_lookUp.l0,if_pos cn,if_pos cn',if_pos h1,q1,q2]
   split
   ·split
    ·exact ⟨_,rfl,rfl⟩
    ·exact ⟨_,rfl,rfl⟩
   ·exact ⟨_,rfl,rfl⟩
  ·simp only [spec_l10Look.l0,impl_Heap_lookUp.l0,if_neg cn]
   exact ⟨_,rfl,rfl⟩
theorem lookup_both (ha:a.length <= 1048576) (hb:b.length <= 1048576) (hc:c.length <= 1048576) (hd:d.length <= 1048576) (e n r:Int) (k:Nat) (hk:5000000 < k):∃ q,spec_LookUp.f k a b c d e n r = some q /\ impl_LookUp.f k a b c d e n r = some q:= by
 obtain ⟨q,h1,h2⟩:= heapok_both a b c d ha hb hc hd k hk
 simp only [spec_LookUp.f,impl_LookUp.f,h1,h2,Option.bind_some,in_same,in_some]
 cases q
 ·exact ⟨_,rfl,rfl⟩
 ·have w1:wrap64 ((a.length:Int) - 1) = (a.length:Int) - 1:= by unfold wrap64; omega
  rw [w1]
  by_cases hx:e >= -1 /\ e <= (a.length:Int) - 1
  ·obtain ⟨q,q1,q2⟩:= look_both a b c d (heap_facts a b c d ha hb hc hd k h1) n r a.length k e (by omega) (by omega) (by omega)
   simp only [if_true,decide_eq_true hx,spec_l10Look.f,impl_Heap_lookUp.f,q1,q2,Option.bind_some]
   exact ⟨_,rfl,rfl⟩
  ·simp only [if_true,decide_eq_false hx]
   exact ⟨_,rfl,rfl⟩
end
theorem FnExactLookUp:Pure:= by
 intro a b c d e n r ⟨ha,_⟩ ⟨hb,_⟩ ⟨hc,_⟩ ⟨hd,_⟩ _ _ _
 refine ⟨5000001,?_⟩
 unfold laws_FnExactLookUp.f
 obtain ⟨s,h1,h2⟩:= sz_heap a b c d ha hb hc hd
 rw [h1]; simp only [Option.bind_some]
 by_cases z:s < 0
 ·rw [if_pos z]
 ·rw [if_neg z]
  obtain ⟨la,lb,lc,ld⟩:= h2 (by omega)
  obtain ⟨q,h7,h8⟩:= lookup_both (a.map cEnvCell) (b.map cClo) (c.map cTwo) (d.map cVal) (by simpa using la) (by simpa using lb) (by simpa using lc) (by simpa using ld) e n r 5000001 (by omega)
  simp only [to_heap a b c d la lb lc ld 5000001 (by omega),Option.bind_some,laws_toBind.f,h7,h8,laws_eqVal.f,if_true,bne_self_eq_false,laws_FnExactLookUp.j0,Bool.false_eq_true,if_false]
  simp only [to_heap a b c d la lb lc ld 5000000 (by omega),Option.bind_some,eq_heap (a.map cEnvCell) (b.map cClo) (c.map cTwo) (d.map cVal) (by simpa using la) (by simpa using lb) (by simpa using lc) (by simpa using ld) 5000000 (by omega),if_true]
end Go.Proofs.Ytlhofeikcaejpaa.Pure

