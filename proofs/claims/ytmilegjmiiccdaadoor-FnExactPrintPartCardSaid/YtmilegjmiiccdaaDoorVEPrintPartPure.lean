/- PureFnExactPrintPart, of the words and walks that the law FnExactPrintPart needs; made by this session's program out of printed texts. -/

import Derived.Test.YtmilegjmiiccdaaDoorVEPrintPartSay
import Derived.Laws.Strings
import Derived.Laws.BitsLemmas
set_option linter.unusedVariables false
set_option linter.unusedSimpArgs false
namespace Go.Proofs.YtmilegjmiiccdaaDoor.Pure
open Go.RowKit Go.Proofs.YtmilegjmiiccdaaDoor.PFnExactPrintPart Go.Proofs.YtmilegjmiiccdaaDoorW.PrintWords Go.Proofs.YtmilegjmiiccdaaDoorW.PrintLast Go.Proofs.YtmilegjmiiccdaaDoor.SayFnExactPrintPart
theorem wrap_next (i:Nat) (h:i < 4611686018427387904):wrap64 ((i:Int) + 1) = ((i + 1:Nat):Int):= by unfold wrap64; omega
theorem set_grown {α:Type} {x m:List α} {i:Nat} (hl:x.length = m.length) (h:∀ j,j < i -> x[j]? = m[j]?) (hi:i < m.length) {v:α} (hv:m[i]? = some v):(x.set i v).length = m.length /\ ∀ j,j < i + 1 -> (x.set i v)[j]? = m[j]?:= by
 refine ⟨by rw [List.length_set,hl],fun j hj => ?_⟩
 by_cases e:j = i
 ·subst e
  rw [List.getElem?_set_self (by omega),hv]
 ·rw [List.getElem?_set_ne (by omega)]
  exact h j (by omega)
theorem all_grown {α:Type} {x m:List α} (hl:x.length = m.length) (h:∀ j,j < m.length -> x[j]? = m[j]?):x = m:= by
 apply List.ext_getElem? ; intro j
 by_cases hj:j < m.length
 ·exact h j hj
 ·rw [List.getElem?_eq_none (by omega),List.getElem?_eq_none (by omega)]
theorem rdL_get (xs:List S42) (i:Nat) (h:i < xs.length):rd_T42 xs (i:Int) = xs[i]:= by
 unfold rd_T42
 simp [List.getD_eq_getElem?_getD,List.getElem?_eq_getElem h]
theorem rdN_get (xs:List S43) (i:Nat) (h:i < xs.length):rd_T43 xs (i:Int) = xs[i]:= by
 unfold rd_T43
 simp [List.getD_eq_getElem?_getD,List.getElem?_eq_getElem h]
def nodeOf (x:S42):S43:= ⟨x.f0,x.f1,x.f2,x.f3,x.f4,x.f5,x.f6⟩
theorem sz_loop (l:List S42) (hg:∀ x ∈ l,x.f5.size <= 9223372036854775807 /\ x.f6.size <= 9223372036854775807) (hn:l.length <= 1048576) (d:Nat):∀ k (i:Nat) (left:Int),i + d = l.length -> 0 <= left -> left <= 1048576 -> d < k ->
  ∃ r,laws_szNodeS.l0 k l left i = some r /\ r <= left /\ (0 <= r -> ∀ (j:Nat) (hj:j < l.length),i <= j -> l[j].f5.size <= 1048576 /\ l[j].f6.size <= 1048576):= by
 induction d with
 | zero =>
  intro k i left hd h0 h1 hk
  obtain ⟨k,rfl⟩:∃ m,k = m + 1:= ⟨k - 1,by omega⟩
  have c:¬ (i:Int) < (l.length:Int):= by omega
  simp only [laws_szNodeS.l0,if_neg c]
  exact ⟨left,rfl,by omega,fun _ j hj hij => by omega⟩
 | succ d ih =>
  intro k i left hd h0 h1 hk
  obtain ⟨k,rfl⟩:∃ m,k = m + 1:= ⟨k - 1,by omega⟩
  have c:(i:Int) < (l.length:Int):= by omega
  have hi:i < l.length:= by omega
  have c0:0 <= (i:Int):= Int.natCast_nonneg i
  have hgi:= hg l[i] (List.getElem_mem hi)
  simp only [laws_szNodeS.l0,if_pos c,if_pos c0,rdL_get l i hi,wrap_next i (by omega),laws_szNode.f]
  have e1:wrap64 (left - (l[i].f5.size:Int)) = left - (l[i].f5.size:Int):= by unfold wrap64; omega
  rw [e1]
  by_cases a1:left - (l[i].f5.size:Int) < 0
  ·simp only [if_pos a1,Option.bind_some]
   exact ⟨-1,by simp,by omega,fun h => by omega⟩
  ·have e2:wrap64 (left - (l[i].f5.size:Int) - (l[i].f6.size:Int)) = left - (l[i].f5.size:Int) - (l[i].f6.size:Int):= by unfold wrap64; omega
   simp only [if_neg a1,e2]
   by_cases a2:left - (l[i].f5.size:Int) - (l[i].f6.size:Int) < 0
   ·simp only [if_pos a2,Option.bind_some]
    exact ⟨-1,by simp,by omega,fun h => by omega⟩
   ·simp only [if_neg a2,Option.bind_some]
    obtain ⟨r,h2,h3,h4⟩:= ih k (i + 1) (left - (l[i].f5.size:Int) - (l[i].f6.size:Int)) (by omega) (by omega) (by omega) (by omega)
    refine ⟨r,h2,by omega,fun h j hj hij => ?_⟩
    by_cases e:i = j
    ·subst e
     omega
    ·exact h4 h j hj (by omega)
theorem sz_nodes (l:List S42) (hl:l.length <= 9223372036854775807) (hg:∀ x ∈ l,x.f5.size <= 9223372036854775807 /\ x.f6.size <= 9223372036854775807) (left:Int) (h0:0 <= left) (h1:left <= 1048576) (k:Nat) (hk:1048576 < k) :
  ∃ r,laws_szNodeS.f k l left = some r /\ r <= left /\ (0 <= r -> l.length <= 1048576 /\ ∀ x ∈ l,x.f5.size <= 1048576 /\ x.f6.size <= 1048576):= by
 unfold laws_szNodeS.f
 have e:wrap64 (left - (l.length:Int)) = left - (l.length:Int):= by unfold wrap64; omega
 rw [e]
 by_cases h:left - (l.length:Int) < 0
 ·rw [if_pos h]
  exact ⟨-1,rfl,by omega,fun h => by omega⟩
 ·rw [if_neg h]
  obtain ⟨r,h2,h3,h4⟩:= sz_loop l hg (by omega) l.length k 0 (left - (l.length:Int)) (by omega) (by omega) (by omega) (by omega)
  refine ⟨r,h2,by omega,fun h => ⟨by omega,fun x hx => ?_⟩⟩
  obtain ⟨j,hj,rfl⟩:= List.getElem_of_mem hx
  exact h4 h j hj (by omega)
theorem to_loop (l:List S42) (hn:l.length <= 1048576) (d:Nat):∀ k (i:Nat) (x:List S43),i + d = l.length -> x.length = (l.map nodeOf).length -> (∀ j,j < i -> x[j]? = (l.map nodeOf)[j]?) -> d < k ->
  laws_toNodeS.l0 k l x i = some (l.map nodeOf):= by
 induction d with
 | zero =>
  intro k i x hd hx hp hk
  obtain ⟨k,rfl⟩:∃ m,k = m + 1:= ⟨k - 1,by omega⟩
  have c:¬ (i:Int) < (l.length:Int):= by omega
  simp only [laws_toNodeS.l0,if_neg c]
  rw [all_grown hx (fun j hj => hp j (by simp at hj; omega))]
 | succ d ih =>
  intro k i x hd hx hp hk
  obtain ⟨k,rfl⟩:∃ m,k = m + 1:= ⟨k - 1,by omega⟩
  have hxl:x.length = l.length:= by simpa using hx
  have c:(i:Int) < (l.length:Int):= by omega
  have c2:(i:Int) < (x.length:Int):= by omega
  have hi:i < l.length:= by omega
  have c0:0 <= (i:Int):= Int.natCast_nonneg i
  simp only [laws_toNodeS.l0,laws_toNode.f,Option.bind_some,if_pos c,if_pos c0,if_pos c2,rdL_get l i hi,wrap_next i (by omega),Int.toNat_natCast]
  obtain ⟨h1,h2⟩:= set_grown (v:= nodeOf l[i]) hx hp (by simpa using hi) (by simp [List.getElem?_eq_getElem hi])
  exact ih k (i + 1) _ (by omega) h1 h2 (by omega)
theorem to_nodes (l:List S42) (hn:l.length <= 1048576) (k:Nat) (hk:1048576 < k):laws_toNodeS.f k l = some (l.map nodeOf):= by
 unfold laws_toNodeS.f
 have c1:0 <= (l.length:Int):= Int.natCast_nonneg _
 have c2:((l.length:Int)).toNat <= 3909374676536:= by omega
 rw [if_pos c1,if_pos c2]
 exact to_loop l hn l.length k 0 _ (by omega) (by simp) (fun j hj => by omega) (by omega)
theorem eq_loop (l:List S43) (hn:l.length <= 1048576) (d:Nat):∀ k (i:Nat),i + d = l.length -> d < k -> laws_eqNodeS.l0 k l l i = some true:= by
 induction d with
 | zero =>
  intro k i hd hk
  obtain ⟨k,rfl⟩:∃ m,k = m + 1:= ⟨k - 1,by omega⟩
  have c:¬ (i:Int) < (l.length:Int):= by omega
  simp only [laws_eqNodeS.l0,if_neg c]
 | succ d ih =>
  intro k i hd hk
  obtain ⟨k,rfl⟩:∃ m,k = m + 1:= ⟨k - 1,by omega⟩
  have c:(i:Int) < (l.length:Int):= by omega
  have c0:0 <= (i:Int):= Int.natCast_nonneg i
  simp only [laws_eqNodeS.l0,laws_eqNode.f,if_true,Option.bind_some,if_pos c,if_pos c0,wrap_next i (by omega)]
  exact ih k (i + 1) (by omega) (by omega)
theorem eq_nodes (l:List S43) (hn:l.length <= 1048576) (k:Nat) (hk:1048576 < k):laws_eqNodeS.f k l l = some true:= by
 unfold laws_eqNodeS.f
 rw [if_pos rfl]
 exact eq_loop l hn l.length k 0 (by omega) (by omega)
theorem ev_step {α:Type} {g:Nat -> Option α} {r:α} (h:Ev (fun k => g (k + 1)) r):Ev g r:= Ev.step (fun _ => rfl) h
theorem ev_bind {α β:Type} {g:Nat -> Option α} {f:Nat -> α -> Option β} {a:α} {r:β} (h:Ev g a) (k:Ev (fun n => f n a) r):Ev (fun n => (g n).bind (f n)) r:= Ev.bind h k
theorem ev_const {α:Type} (r:α):Ev (fun _ => some r) r:= Ev.now r
theorem ev_at {α:Type} {g:Nat -> Option α} {r:α} (n:Nat) (h:∀ k,n <= k -> g k = some r):Ev g r:= ⟨n,h⟩
theorem ev_eq {α:Type} {g:Nat -> Option α} {r q:α} (h:Ev g r) (e:r = q):Ev g q:= e ▸ h
def keyList:List ByteArray:= [(⟨#[102,117,110]⟩:ByteArray),(⟨#[97,112,112]⟩:ByteArray),(⟨#[108,101,116]⟩:ByteArray),(⟨#[114,101,99]⟩:ByteArray),(⟨#[105,102]⟩:ByteArray),(⟨#[97,100,100]⟩:ByteArray),(⟨#[115,117,98]⟩:ByteArray),(⟨#[108,101,115,115]⟩:ByteArray),(⟨#[115,97,109,101]⟩:ByteArray),(⟨#[112,97,105,114]⟩:ByteArray),(⟨#[102,115,116]⟩:ByteArray),(⟨#[115,110,100]⟩:ByteArray),(⟨#[110,105,108]⟩:ByteArray),(⟨#[99,111,110,115]⟩:ByteArray),(⟨#[109,97,116,99,104]⟩:ByteArray),(⟨#[114,101,102]⟩:ByteArray),(⟨#[103,101,116]⟩:ByteArray),(⟨#[115,101,116]⟩:ByteArray),(⟨#[114,97,105,115,101]⟩:ByteArray),(⟨#[116,114,121]⟩:ByteArray)]
theorem key_split:strings_Split.f 60 (⟨#[102,117,110,32,97,112,112,32,108,101,116,32,114,101,99,32,105,102,32,97,100,100,32,115,117,98,32,108,101,115,115,32,115,97,109,101,32,112,97,105,114,32,102,115,116,32,115,110,100,32,110,105,108,32,99,111,110,115,32,109,97,116,99,104,32,114,101,102,32,103,101,116,32,115,101,116,32,114,97,105,115,101,32,116,114,121]⟩:ByteArray) (⟨#[32]⟩:ByteArray) = some keyList:= by decide +kernel
def isKeyM (s:ByteArray):Bool:= keyList.any fun x => decide (x.toList = s.toList)
theorem rds_get (g:List ByteArray) (i:Nat) (h:i < g.length):rdOf ByteArray.empty g (i:Int) = g[i]:= by
 unfold rdOf
 simp [List.getD_eq_getElem?_getD,List.getElem?_eq_getElem h]
theorem key_loops (s:ByteArray) (L:List ByteArray) (hL:L.length <= 1048576) (m:Nat):∀ i:Nat,i + m = L.length -> Ev (fun k => spec_IsKey.l0 k s L i) ((L.drop i).any fun x => decide (x.toList = s.toList)) /\ Ev (fun k => impl_IsKey.l0 k s L (L.length:Int) i) ((L.drop i).any fun x => decide (x.toList = s.toList)):= by
 induction m with
 | zero =>
  intro i hi
  have c:¬ (i:Int) < (L.length:Int):= by omega
  rw [List.drop_of_length_le (by omega)]
  constructor
  ·apply ev_step
   simp only [spec_IsKey.l0,if_neg c]
   exact ev_const false
  ·apply ev_step
   simp only [impl_IsKey.l0,if_neg c]
   exact ev_const false
 | succ m ih =>
  intro i hi
  have c:(i:Int) < (L.length:Int):= by omega
  have c0:0 <= (i:Int):= Int.natCast_nonneg i
  have hi':i < L.length:= by omega
  obtain ⟨h1,h2⟩:= ih (i + 1) (by omega)
  rw [List.drop_eq_getElem_cons hi',List.any_cons]
  constructor
  ·apply ev_step
   simp only [spec_IsKey.l0,if_pos c,if_pos c0,wrap_next i (by omega),rds_get L i hi']
   by_cases e:L[i].toList = s.toList
   ·simp only [if_pos e]
    simpa [e] using ev_const true
   ·simp only [if_neg e]
    simpa [e] using h1
  ·apply ev_step
   simp only [impl_IsKey.l0,if_pos c,if_pos c0,wrap_next i (by omega),rds_get L i hi']
   by_cases e:L[i].toList = s.toList
   ·simp only [if_pos e]
    simpa [e] using ev_const true
   ·simp only [if_neg e]
    simpa [e] using h2
theorem spec_isKey (s:ByteArray):Ev (fun k => spec_IsKey.f k s) (isKeyM s):= by
 have h:= (key_loops s keyList (by decide) keyList.length 0 (by decide)).1
 unfold spec_IsKey.f
 simp only [spec_l3Keys.f,Option.bind_some]
 exact h
theorem impl_isKey (s:ByteArray):Ev (fun k => impl_IsKey.f k s) (isKeyM s):= by
 have h:= (key_loops s keyList (by decide) keyList.length 0 (by decide)).2
 unfold impl_IsKey.f
 exact ev_bind (Ev.of (fun k => strings_Split.mono _ _ k) key_split) h
theorem toList_loop_len (b:ByteArray):∀ (m i:Nat) (acc:List UInt8),b.size - i = m -> (ByteArray.toList.loop b i acc).length = acc.length + m:= by
 intro m
 induction m with
 | zero => intro i acc h; unfold ByteArray.toList.loop; rw [if_neg (by omega)]; simp
 | succ m ih => intro i acc h; unfold ByteArray.toList.loop; rw [if_pos (by omega),ih (i + 1) _ (by omega)]; simp; omega
theorem toList_len (b:ByteArray):b.toList.length = b.size:= by
 unfold ByteArray.toList
 rw [toList_loop_len b b.size 0 [] (by omega)]
 simp
theorem rd_get (xs:List Int) (i:Nat) (h:i < xs.length):rd xs (i:Int) = xs[i]:= by
 unfold rd
 simp [List.getD_eq_getElem?_getD,List.getElem?_eq_getElem h]
theorem in_same (a b c:Int):impl_in.f a b c = spec_l1In.f a b c:= rfl
theorem in_some (a b c:Int):spec_l1In.f a b c = some (decide (b <= a /\ a <= c)):= by
 unfold spec_l1In.f
 by_cases h:a >= b
 ·rw [if_pos h]
  by_cases h2:a <= c
  ·rw [decide_eq_true h2,decide_eq_true ⟨h,h2⟩]
  ·rw [decide_eq_false h2,decide_eq_false (by omega)]
 ·rw [if_neg h,decide_eq_false (by omega)]
def ar (a:Int):Nat:= if a = 3 \/ a = 10 \/ a = 11 \/ a = 15 \/ a = 16 \/ a = 18 then 1 else if a = 4 \/ a = 5 \/ a = 6 \/ a = 8 \/ a = 9 \/ a = 13 \/ a = 17 \/ a = 19 then 2 else if a = 7 \/ a = 14 then 3 else 0
def nm (a:Int):Nat:= if a = 1 \/ a = 3 \/ a = 5 \/ a = 19 then 1 else if a = 6 \/ a = 14 then 2 else 0
theorem ar_most (a:Int):ar a <= 3:= by unfold ar; repeat' split <;> try omega
theorem nm_most (a:Int):nm a = 0 \/ nm a = 1 \/ nm a = 2:= by unfold nm; repeat' split <;> try omega
theorem arity_at (a:Int) (k:Nat):spec_Arity.f (k + 2) a = some (ar a:Int):= by
 by_cases h:a = 3 \/ a = 10 \/ a = 11 \/ a = 15 \/ a = 16 \/ a = 18 \/ a = 4 \/ a = 5 \/ a = 6 \/ a = 8 \/ a = 9 \/ a = 13 \/ a = 17 \/ a = 19 \/ a = 7 \/ a = 14
 ·rcases h with rfl | rfl | rfl | rfl | rfl | rfl | rfl | rfl | rfl | rfl | rfl | rfl | rfl | rfl | rfl | rfl <;> rfl
 ·simp only [not_or] at h
  obtain ⟨h1,h2,h3,h4,h5,h6,h7,h8,h9,h10,h11,h12,h13,h14,h15,h16⟩:= h
  simp [spec_Arity.f,spec_Arity.j0,spec_Arity.j1,ar,h1,h2,h3,h4,h5,h6,h7,h8,h9,h10,h11,h12,h13,h14,h15,h16]
theorem spec_ar (a:Int):Ev (fun k => spec_Arity.f k a) (ar a:Int):= ev_at 2 (fun k hk => by
 obtain ⟨k,rfl⟩:∃ m,k = m + 2:= ⟨k - 2,by omega⟩
 exact arity_at a k)
theorem impl_ar (a:Int):Ev (fun k => impl_Arity.f k a) (ar a:Int):= ev_at 2 (fun k hk => by
 obtain ⟨k,rfl⟩:∃ m,k = m + 2:= ⟨k - 2,by omega⟩
 have e:impl_Arity.f (k + 2) a = spec_Arity.f (k + 2) a:= by
  simp only [spec_Arity.f,impl_Arity.f,spec_Arity.j0,spec_Arity.j1,impl_Arity.j0,impl_Arity.j1]
 exact e.trans (arity_at a k))
theorem names_at (a:Int) (k:Nat):spec_l3Names.f (k + 2) a = some (nm a:Int):= by
 by_cases h:a = 1 \/ a = 3 \/ a = 5 \/ a = 19 \/ a = 6 \/ a = 14
 ·rcases h with rfl | rfl | rfl | rfl | rfl | rfl <;> rfl
 ·simp only [not_or] at h
  obtain ⟨h1,h2,h3,h4,h5,h6⟩:= h
  simp [spec_l3Names.f,spec_l3Names.j0,nm,h1,h2,h3,h4,h5,h6]
theorem spec_nm (a:Int):Ev (fun k => spec_l3Names.f k a) (nm a:Int):= ev_at 2 (fun k hk => by
 obtain ⟨k,rfl⟩:∃ m,k = m + 2:= ⟨k - 2,by omega⟩
 exact names_at a k)
theorem impl_nm (a:Int):Ev (fun k => impl_namesOf.f k a) (nm a:Int):= ev_at 2 (fun k hk => by
 obtain ⟨k,rfl⟩:∃ m,k = m + 2:= ⟨k - 2,by omega⟩
 have e:impl_namesOf.f (k + 2) a = spec_l3Names.f (k + 2) a:= by
  simp only [spec_l3Names.f,impl_namesOf.f,spec_l3Names.j0,impl_namesOf.j0]
 exact e.trans (names_at a k))
def kidsM (n:S43):List Int:= [n.f1,n.f2,n.f3].take (ar n.f0)
theorem kidsM_len (n:S43):(kidsM n).length = ar n.f0:= by
 have:= ar_most n.f0
 unfold kidsM
 rw [List.length_take]
 simp only [List.length_cons,List.length_nil]
 omega
theorem spec_kids (n:S43):Ev (fun k => spec_Kids.f k n.f0 n.f1 n.f2 n.f3 n.f4 n.f5 n.f6) (kidsM n):= by
 have h:= ar_most n.f0
 unfold spec_Kids.f
 simp only [Option.bind_some]
 refine ev_bind (spec_ar n.f0) ?_
 have c1:(0:Int) <= (ar n.f0:Int):= by omega
 have c2:(ar n.f0:Int) <= (([n.f1,n.f2,n.f3]:List Int).length:Int):= by simp only [List.length_cons,List.length_nil]; omega
 simp only [if_pos c1,if_pos c2,Int.toNat_natCast]
 exact ev_const _
theorem impl_kids (n:S43):Ev (fun k => impl_Kids.f k n.f0 n.f1 n.f2 n.f3 n.f4 n.f5 n.f6) (kidsM n):= by
 have h:= ar_most n.f0
 unfold impl_Kids.f
 simp only [Option.bind_some]
 refine ev_bind (impl_ar n.f0) (ev_bind (impl_ar n.f0) ?_)
 have c1:(0:Int) <= (ar n.f0:Int):= by omega
 have c2:(ar n.f0:Int) <= (([n.f1,n.f2,n.f3]:List Int).length:Int):= by simp only [List.length_cons,List.length_nil]; omega
 have c3:(ar n.f0:Int) <= (ar n.f0:Int):= Int.le_refl _
 simp only [if_pos c1,if_pos c2,if_pos c3,Int.toNat_natCast]
 exact ev_const _
def wordM (s:ByteArray):Bool:= ((List.range' 0 s.size).all fun (i:Nat) => decide (97 <= bt s i) && decide (bt s i <= 122)) && decide (1 <= (s.size:Int) /\ (s.size:Int) <= 8)
def nameM (s:ByteArray):Bool:= wordM s && !isKeyM s
theorem word_loops (s:ByteArray) (hn:s.size <= 1048576) (m:Nat):∀ i:Nat,i + m = s.size ->
  Ev (fun k => spec_IsWord.l0 k s i) (((List.range' i m).all fun (i:Nat) => decide (97 <= bt s i) && decide (bt s i <= 122)) && decide (1 <= (s.size:Int) /\ (s.size:Int) <= 8)) /\
  Ev (fun k => impl_IsWord.l0 k s i) (((List.range' i m).all fun (i:Nat) => decide (97 <= bt s i) && decide (bt s i <= 122)) && decide (1 <= (s.size:Int) /\ (s.size:Int) <= 8)):= by
 induction m with
 | zero =>
  intro i hi
  have c:¬ (i:Int) < (s.size:Int):= by omega
  constructor
  ·apply ev_step
   simp only [spec_IsWord.l0,if_neg c,in_some,Option.bind_some]
   exact ev_const _
  ·apply ev_step
   simp only [impl_IsWord.l0,if_neg c,in_same,in_some,Option.bind_some]
   exact ev_const _
 | succ m ih =>
  intro i hi
  obtain ⟨h1,h2⟩:= ih (i + 1) (by omega)
  have c:(i:Int) < (s.size:Int):= by omega
  have c0:0 <= (i:Int):= Int.natCast_nonneg i
  rw [List.range'_succ,List.all_cons]
  constructor
  ·apply ev_step
   simp only [spec_IsWord.l0,if_pos c,if_pos c0,wrap_next i (by omega),spec_l2Letter.f]
   by_cases a1:bt s i >= 97
   ·simp only [if_pos a1,Option.bind_some]
    by_cases a2:bt s i <= 122
    ·simp only [decide_eq_true a2,if_true]
     simpa [decide_eq_true (show 97 <= bt s i from a1)] using h1
    ·simp only [decide_eq_false a2,Bool.false_eq_true,if_false]
     simpa using ev_const false
   ·simp only [if_neg a1,Option.bind_some,Bool.false_eq_true,if_false]
    simpa [decide_eq_false (show ¬ 97 <= bt s i from a1)] using ev_const false
  ·apply ev_step
   simp only [impl_IsWord.l0,if_pos c,if_pos c0,wrap_next i (by omega)]
   by_cases a1:bt s i < 97
   ·simp only [if_pos a1]
    simpa [decide_eq_false (show ¬ 97 <= bt s i by omega)] using ev_const false
   ·simp only [if_neg a1]
    by_cases a2:bt s i > 122
    ·simp only [if_pos a2]
     simpa [decide_eq_false (show ¬ bt s i <= 122 by omega)] using ev_const false
    ·simp only [if_neg a2]
     simpa [decide_eq_true (show 97 <= bt s i by omega),decide_eq_true (show bt s i <= 122 by omega)] using h2
theorem spec_word (s:ByteArray) (hn:s.size <= 1048576):Ev (fun k => spec_IsWord.f k s) (wordM s):= (word_loops s hn s.size 0 (by omega)).1
theorem impl_word (s:ByteArray) (hn:s.size <= 1048576):Ev (fun k => impl_IsWord.f k s) (wordM s):= (word_loops s hn s.size 0 (by omega)).2
theorem spec_name (s:ByteArray) (hn:s.size <= 1048576):Ev (fun k => spec_l3Name.f k s) (nameM s):= by
 unfold spec_l3Name.f nameM
 refine ev_bind (spec_word s hn) ?_
 cases wordM s
 ·simp only [Bool.false_eq_true,if_false]
  exact ev_const _
 ·simp only [if_true]
  exact ev_bind (spec_isKey s) (ev_const _)
theorem impl_name (s:ByteArray) (hn:s.size <= 1048576):Ev (fun k => impl_isName.f k s) (nameM s):= by
 unfold impl_isName.f nameM
 refine ev_bind (impl_word s hn) ?_
 cases wordM s
 ·simp only [Bool.false_eq_true,if_false]
  exact ev_const _
 ·simp only [if_true]
  exact ev_bind (impl_isKey s) (ev_const _)
theorem name_some {s:ByteArray} (h:nameM s = true):s.toList ≠ []:= by
 intro e
 have l:= toList_len s
 rw [e] at l
 unfold nameM wordM at h
 simp at h l
 omega
def fitsM (s:ByteArray) (b:Bool):Bool:= if b = true then nameM s else s.toList == []
theorem impl_fits (s:ByteArray) (hn:s.size <= 1048576) (b:Bool):Ev (fun k => impl_nameFits.f k s b) (fitsM s b):= by
 unfold impl_nameFits.f fitsM
 cases b
 ·simp only [Bool.false_eq_true,if_false]
  exact ev_const _
 ·simp only [if_true]
  exact ev_bind (impl_name s hn) (ev_const _)
def zeroM (n:S43):Bool:= decide ((ar n.f0 < 1 -> n.f1 = 0) /\ (ar n.f0 < 2 -> n.f2 = 0) /\ (ar n.f0 < 3 -> n.f3 = 0))
def numM (n:S43):Bool:= if n.f0 = 2 then decide (0 <= n.f4 /\ n.f4 <= 65535) else if n.f0 = 8 then decide (0 <= n.f4 /\ n.f4 <= 3) else n.f4 == 0
def fieldsM (n:S43):Bool:= decide (1 <= n.f0 /\ n.f0 <= 19) && (zeroM n && (fitsM n.f5 (decide (nm n.f0 > 0)) && (fitsM n.f6 (decide (nm n.f0 > 1)) && numM n)))
def small (n:S43):Prop:= n.f5.size <= 1048576 /\ n.f6.size <= 1048576
theorem spec_f1 (n:S43) (b:Bool):Ev (fun k => spec_l3Fields.j1 k b n.f0 n.f1 n.f2 n.f3 n.f4 n.f5 n.f6) (!b && numM n):= by
 apply ev_step
 simp only [spec_l3Fields.j1,in_some,Option.bind_some]
 cases b
 ·simp only [Bool.false_eq_true,if_false,Bool.not_false,Bool.true_and]
  unfold numM
  split
  ·exact ev_const _
  ·split
   ·exact ev_const _
   ·exact ev_const _
 ·simp only [if_true]
  exact ev_const false
theorem spec_other (n:S43) (hs:small n) (m:Nat) (hm:m = 0 \/ m = 1 \/ m = 2):Ev (fun k => (spec_l3Name.f k n.f6).bind fun t => (if ((decide ((m:Int) > 1)) != t) = true then (spec_l3Fields.j1 k true n.f0 n.f1 n.f2 n.f3 n.f4 n.f5 n.f6) else (if (m:Int) < 2 then (spec_l3Fields.j1 k (n.f6.toList != ([]:List UInt8)) n.f0 n.f1 n.f2 n.f3 n.f4 n.f5 n.f6) else (spec_l3Fields.j1 k false n.f0 n.f1 n.f2 n.f3 n.f4 n.f5 n.f6)))) (fitsM n.f6 (decide (m > 1)) && numM n):= by
 refine ev_bind (spec_name n.f6 hs.2) ?_
 have e0:= @name_some n.f6
 have f1:= spec_f1 n true
 have f2:= spec_f1 n false
 have f3:= spec_f1 n (n.f6.toList != ([]:List UInt8))
 have hb:(n.f6.toList != ([]:List UInt8)) = !(n.f6.toList == ([]:List UInt8)):= rfl
 have e1:nameM n.f6 = true -> (n.f6.toList == ([]:List UInt8)) = false:= fun h => by
  have:= e0 h
  cases hh:n.f6.toList == ([]:List UInt8)
  ·rfl
  ·exact absurd (by simpa using hh) this
 unfold fitsM
 rw [hb] at f3 ⊢
 generalize (n.f6.toList == ([]:List UInt8)) = z at f3 e1 ⊢
 rcases hm with rfl | rfl | rfl
 ·cases h:nameM n.f6
  ·simpa using f3
  ·simpa [e1 h] using f1
 ·cases h:nameM n.f6
  ·simpa using f3
  ·simpa [e1 h] using f1
 ·cases h:nameM n.f6
  ·simpa [h] using f1
  ·simpa [h] using f2
theorem spec_f0 (n:S43) (hs:small n) (b:Bool):Ev (fun k => spec_l3Fields.j0 k b n.f0 n.f1 n.f2 n.f3 n.f4 n.f5 n.f6) (!b && (fitsM n.f5 (decide (nm n.f0 > 0)) && (fitsM n.f6 (decide (nm n.f0 > 1)) && numM n))):= by
 apply ev_step
 simp only [spec_l3Fields.j0]
 cases b
 rotate_left
 ·simp only [if_true]
  exact ev_const false
 simp only [Bool.false_eq_true,if_false,Bool.not_false,Bool.true_and]
 refine ev_bind (spec_nm n.f0) (ev_bind (spec_name n.f5 hs.1) ?_)
 have e0:= @name_some n.f5
 have f1:= spec_f1 n true
 have f2:= spec_other n hs (nm n.f0) (nm_most n.f0)
 generalize nm n.f0 = m at f2 ⊢
 rcases Nat.eq_zero_or_pos m with h0 | h0
 ·subst h0
  cases h:nameM n.f5
  ·by_cases e:n.f5.toList = []
   ·simpa [fitsM,e,h] using f2
   ·have ez:fitsM n.f5 (decide (0 > 0)) = false:= by
     unfold fitsM
     rw [if_neg (by decide)]
     cases hh:n.f5.toList == ([]:List UInt8)
     ·rfl
     ·exact absurd (by simpa using hh) e
    rw [ez]
    simpa [e,h] using f1
  ·have ez:fitsM n.f5 (decide (0 > 0)) = false:= by
    unfold fitsM
    rw [if_neg (by decide)]
    cases hh:n.f5.toList == ([]:List UInt8)
    ·rfl
    ·exact absurd (by simpa using hh) (e0 h)
   rw [ez]
   simpa [h] using f1
 ·have c1:(m:Int) > 0:= by omega
  have c2:¬ (m:Int) = 0:= by omega
  cases h:nameM n.f5
  ·simp only [decide_eq_true c1,decide_eq_true (show m > 0 from h0)]
   simpa [fitsM,h] using f1
  ·simp only [decide_eq_true c1,decide_eq_true (show m > 0 from h0),if_neg c2]
   simpa [fitsM,h] using f2
theorem spec_fields (n:S43) (hs:small n):Ev (fun k => spec_l3Fields.f k n.f0 n.f1 n.f2 n.f3 n.f4 n.f5 n.f6) (fieldsM n):= by
 unfold spec_l3Fields.f
 simp only [in_some,Option.bind_some]
 unfold fieldsM
 by_cases h:1 <= n.f0 /\ n.f0 <= 19
 rotate_left
 ·simp only [decide_eq_false h,Bool.false_eq_true,if_false]
  exact ev_const false
 simp only [decide_eq_true h,if_true,Bool.true_and]
 refine ev_bind (spec_ar n.f0) ?_
 have g0:= spec_f0 n hs false
 have g1:= spec_f0 n hs true
 have g2:= spec_f0 n hs (n.f3 != 0)
 generalize (fitsM n.f5 (decide (nm n.f0 > 0)) && (fitsM n.f6 (decide (nm n.f0 > 1)) && numM n)) = R at g0 g1 g2 ⊢
 have ha:= ar_most n.f0
 unfold zeroM
 have hb3:(n.f3 != 0) = !(decide (n.f3 = 0)):= rfl
 rw [hb3] at g2 ⊢
 generalize ar n.f0 = m at ha ⊢
 have hm:m = 0 \/ m = 1 \/ m = 2 \/ m = 3:= by omega
 rcases hm with rfl | rfl | rfl | rfl
 ·by_cases e1:n.f1 = 0
  ·by_cases e2:n.f2 = 0
   ·simpa [e1,e2] using g2
   ·simpa [e1,e2] using g1
  ·simpa [e1] using g1
 ·by_cases e2:n.f2 = 0
  ·simpa [e2] using g2
  ·simpa [e2] using g1
 ·simpa using g2
 ·simpa using g0
theorem impl_f_end (n:S43) (L:List Int):Ev (fun k => impl_fieldsOk.l0 k L 3 3 n.f0 n.f1 n.f2 n.f3 n.f4 n.f5 n.f6) (numM n):= by
 apply ev_step
 have c:¬ (3:Int) < 3:= by omega
 simp only [impl_fieldsOk.l0,if_neg c,in_same,in_some,Option.bind_some]
 unfold numM
 split
 ·exact ev_const _
 ·split
  ·exact ev_const _
  ·exact ev_const _
theorem impl_f_step (n:S43) (L:List Int) (hL:L.length = 3) (j:Nat) (hj:j < 3) {R:Bool} (h:Ev (fun k => impl_fieldsOk.l0 k L 3 ((j + 1:Nat):Int) n.f0 n.f1 n.f2 n.f3 n.f4 n.f5 n.f6) R) :
  Ev (fun k => impl_fieldsOk.l0 k L 3 (j:Int) n.f0 n.f1 n.f2 n.f3 n.f4 n.f5 n.f6) (decide (ar n.f0 < j + 1 -> L[j]'(by omega) = 0) && R):= by
 apply ev_step
 have c:(j:Int) < 3:= by omega
 have c0:(0:Int) <= (j:Int):= by omega
 have c1:(j:Int) < (L.length:Int):= by omega
 simp only [impl_fieldsOk.l0,if_pos c,if_pos c0,if_pos c1,rd_get L j (by omega),wrap_next j (by omega)]
 refine ev_bind (impl_ar n.f0) ?_
 by_cases e:(j:Int) >= (ar n.f0:Int)
 ·simp only [if_pos e]
  have e':ar n.f0 < j + 1:= by omega
  by_cases z:L[j]'(by omega) = 0
  ·simp only [if_pos z]
   simpa [z] using h
  ·simp only [if_neg z]
   simpa [z,e'] using ev_const false
 ·simp only [if_neg e]
  have e':¬ ar n.f0 < j + 1:= by omega
  simpa [e'] using h
theorem impl_fields (n:S43) (hs:small n):Ev (fun k => impl_fieldsOk.f k n.f0 n.f1 n.f2 n.f3 n.f4 n.f5 n.f6) (fieldsM n):= by
 have hj:∀ b:Bool,Ev (fun k => impl_fieldsOk.j0 k b n.f0 n.f1 n.f2 n.f3 n.f4 n.f5 n.f6) (!b && (zeroM n && numM n)):= by
  intro b
  apply ev_step
  simp only [impl_fieldsOk.j0]
  cases b
  rotate_left
  ·simp only [if_true]
   exact ev_const false
  simp only [Bool.false_eq_true,if_false,Bool.not_false,Bool.true_and,Option.bind_some]
  have h3:= impl_f_end n [n.f1,n.f2,n.f3]
  have h2:= impl_f_step n [n.f1,n.f2,n.f3] rfl 2 (by omega) h3
  have h1:= impl_f_step n [n.f1,n.f2,n.f3] rfl 1 (by omega) h2
  have h0:= impl_f_step n [n.f1,n.f2,n.f3] rfl 0 (by omega) h1
  refine ev_eq h0 ?_
  unfold zeroM
  simp only [Bool.decide_and,Bool.and_assoc]
  rfl
 unfold impl_fieldsOk.f
 simp only [in_same,in_some,Option.bind_some]
 unfold fieldsM
 by_cases h:1 <= n.f0 /\ n.f0 <= 19
 rotate_left
 ·simp only [decide_eq_false h,Bool.false_eq_true,if_false]
  exact hj true
 simp only [decide_eq_true h,if_true,Bool.true_and]
 refine ev_bind (impl_nm n.f0) ?_
 have d1:(decide ((nm n.f0:Int) > 0)) = decide (nm n.f0 > 0):= decide_eq_decide.2 (by omega)
 have d2:(decide ((nm n.f0:Int) > 1)) = decide (nm n.f0 > 1):= decide_eq_decide.2 (by omega)
 refine ev_bind (impl_fits n.f5 hs.1 _) ?_
 rw [d1]
 cases hf:fitsM n.f5 (decide (nm n.f0 > 0))
 ·simp only [Bool.false_eq_true,if_false]
  exact ev_eq (hj true) (by simp)
 ·simp only [if_true]
  refine ev_bind (impl_nm n.f0) (ev_bind (impl_fits n.f6 hs.2 _) ?_)
  rw [d2]
  refine ev_eq (hj _) ?_
  cases zeroM n <;> cases fitsM n.f6 (decide (nm n.f0 > 1)) <;> rfl
def walkM (st:List Int):Int -> List Int -> Option Int
 | a,[] => some a
 | a,c :: cs => if c = a - 1 /\ 0 <= c then walkM st (rd st c) cs else none
def startsM:List S43 -> List Int -> Option (List Int)
 | [],st => some st
 | n :: ns,st => if fieldsM n = true then (match walkM st (st.length:Int) (kidsM n).reverse with | some a => startsM ns (st ++ [a]) | none => none) else none
def okM (l:List S43):Bool:= decide (1 <= (l.length:Int) /\ (l.length:Int) <= 150) && (match startsM l [] with | some st => rd st ((l.length - 1:Nat):Int) == 0 | none => false)
def lowM (st:List Int):Prop:= ∀ (j:Nat) (h:j < st.length),0 <= st[j] /\ st[j] <= j
theorem walk_low {st:List Int} (hl:lowM st):∀ (cs:List Int) (a b:Int),0 <= a -> a <= st.length -> walkM st a cs = some b -> 0 <= b /\ b <= a:= by
 intro cs
 induction cs with
 | nil => intro a b h0 h1 h; simp [walkM] at h; omega
 | cons c cs ih =>
  intro a b h0 h1 h
  rw [walkM] at h
  split at h
  ·rename_i hc
   obtain ⟨j,rfl⟩:∃ j:Nat,c = (j:Int):= ⟨c.toNat,by omega⟩
   have hj:j < st.length:= by omega
   rw [rd_get st j hj] at h
   have:= hl j hj
   have:= ih _ _ this.1 (by omega) h
   omega
  ·cases h
theorem low_next {st:List Int} (hl:lowM st) {b:Int} (h0:0 <= b) (h1:b <= st.length):lowM (st ++ [b]):= by
 intro j hj
 by_cases e:j < st.length
 ·rw [List.getElem_append_left e]
  exact hl j e
 ·have:j = st.length:= by simp at hj; omega
  subst this
  simp
  omega
theorem wrap_prev (a:Int) (h0:0 <= a) (h:a <= 1048576):wrap64 (a - 1) = a - 1:= by unfold wrap64; omega
theorem spec_s1 (l:List S43) (st:List Int) (hl:lowM st) (hn:st.length <= 1048576) (ks:List Int) (hk:ks.length <= 3) {R:List Int × Bool} :
  ∀ (m:Nat) (a:Int),m <= ks.length -> 0 <= a -> a <= st.length ->
  (∀ b,walkM st a (ks.take m).reverse = some b -> Ev (fun k => spec_l3Starts.l0 k l (st ++ [b]) ((st.length + 1:Nat):Int)) R) -> (walkM st a (ks.take m).reverse = none -> R = ([],false)) ->
  Ev (fun k => spec_l3Starts.l1 k l st (st.length:Int) a ks ((m:Int) - 1)) R:= by
 intro m
 induction m with
 | zero =>
  intro a hm h0 h1 hs hz
  apply ev_step
  have c:¬ ((0:Nat):Int) - 1 >= 0:= by omega
  have c2:st.length < 17592186044416:= by omega
  simp only [spec_l3Starts.l1,if_neg c,if_pos c2,wrap_next st.length (by omega)]
  exact hs a rfl
 | succ m ih =>
  intro a hm h0 h1 hs hz
  apply ev_step
  have e:((m + 1:Nat):Int) - 1 = (m:Int):= by omega
  have c:(m:Int) >= 0:= by omega
  have c1:0 <= (m:Int):= by omega
  have c2:(m:Int) < (ks.length:Int):= by omega
  have hm':m < ks.length:= by omega
  have er:(ks.take (m + 1)).reverse = ks[m] :: (ks.take m).reverse:= by
   rw [List.take_succ_eq_append_getElem hm',List.reverse_append]
   rfl
  rw [er] at hs hz
  rw [e]
  simp only [spec_l3Starts.l1,if_pos c,if_pos c1,if_pos c2,rd_get ks m hm',wrap_prev a h0 (by omega),wrap_prev (m:Int) (by omega) (by omega)]
  generalize ks[m] = q at hs hz ⊢
  by_cases d:q = a - 1
  ·simp only [if_pos d]
   by_cases d2:q < 0
   ·simp only [if_pos d2]
    rw [walkM,if_neg (by omega)] at hz
    rw [hz rfl]
    exact ev_const _
   ·have d3:0 <= q:= by omega
    have d4:q < (st.length:Int):= by omega
    rw [walkM,if_pos ⟨d,d3⟩] at hz hs
    simp only [if_neg d2,if_pos d3,if_pos d4]
    obtain ⟨j,rfl⟩:∃ j:Nat,q = (j:Int):= ⟨q.toNat,by omega⟩
    have hj:j < st.length:= by omega
    have:= hl j hj
    rw [rd_get st j hj] at hs hz ⊢
    exact ih _ (by omega) this.1 (by omega) hs hz
  ·simp only [if_neg d]
   rw [walkM,if_neg (by omega)] at hz
   rw [hz rfl]
   exact ev_const _
theorem spec_s0 (l:List S43) (hn:l.length <= 1048576) (hs:∀ x ∈ l,small x) (m:Nat):∀ (st:List Int),lowM st -> st.length + m = l.length ->
  Ev (fun k => spec_l3Starts.l0 k l st (st.length:Int)) (match startsM (l.drop st.length) st with | some s => (s,true) | none => ([],false)):= by
 induction m with
 | zero =>
  intro st hl hm
  rw [List.drop_of_length_le (by omega)]
  apply ev_step
  have c:¬ (st.length:Int) < (l.length:Int):= by omega
  simp only [spec_l3Starts.l0,if_neg c]
  exact ev_const _
 | succ m ih =>
  intro st hl hm
  have hi:st.length < l.length:= by omega
  rw [List.drop_eq_getElem_cons hi]
  apply ev_step
  have c:(st.length:Int) < (l.length:Int):= by omega
  have c0:0 <= (st.length:Int):= by omega
  simp only [spec_l3Starts.l0,if_pos c,if_pos c0,rdN_get l st.length hi,startsM]
  refine ev_bind (spec_fields l[st.length] (hs _ (List.getElem_mem hi))) ?_
  cases hf:fieldsM l[st.length]
  ·simp only [Bool.false_eq_true,if_false]
   exact ev_const _
  ·simp only [if_true]
   refine ev_bind (spec_kids l[st.length]) ?_
   have hk:= kidsM_len l[st.length]
   have ha:= ar_most l[st.length].f0
   generalize kidsM l[st.length] = ks at hk ⊢
   have e:wrap64 ((ks.length:Int) - 1) = (ks.length:Int) - 1:= by unfold wrap64; omega
   rw [e]
   refine spec_s1 l st hl (by omega) ks (by omega) ks.length st.length (by omega) (by omega) (by omega) ?_ ?_
   ·intro b hb
    rw [List.take_length] at hb
    rw [hb]
    have hw:= walk_low hl _ _ _ (by omega) (by omega) hb
    have:= ih (st ++ [b]) (low_next hl hw.1 hw.2) (by simp; omega)
    simpa using this
   ·intro hb
    rw [List.take_length] at hb
    rw [hb]
theorem spec_starts (l:List S43) (hn:l.length <= 1048576) (hs:∀ x ∈ l,small x):Ev (fun k => spec_l3Starts.f k l) (match startsM l [] with | some s => (s,true) | none => ([],false)):= by
 have h:= spec_s0 l hn hs l.length [] (by intro j hj; simp at hj) (by simp)
 exact h
theorem starts_len:∀ (l:List S43) (st s:List Int),startsM l st = some s -> s.length = st.length + l.length:= by
 intro l
 induction l with
 | nil => intro st s h; simp [startsM] at h; subst h; simp
 | cons n ns ih =>
  intro st s h
  rw [startsM] at h
  split at h
  ·split at h
   ·have:= ih _ _ h
    simp at this ⊢
    omega
   ·cases h
  ·cases h
theorem spec_ok (l:List S43) (hn:l.length <= 1048576) (hs:∀ x ∈ l,small x):Ev (fun k => spec_NodesOk.f k l) (okM l):= by
 unfold spec_NodesOk.f okM
 simp only [in_some,Option.bind_some]
 by_cases h:1 <= (l.length:Int) /\ (l.length:Int) <= 150
 rotate_left
 ·simp only [decide_eq_false h,Bool.false_eq_true,if_false]
  exact ev_const false
 simp only [decide_eq_true h,if_true,Bool.true_and]
 refine ev_bind (spec_starts l hn hs) ?_
 have e:wrap64 ((l.length:Int) - 1) = ((l.length - 1:Nat):Int):= by unfold wrap64; omega
 rw [e]
 cases hst:startsM l [] with
 | none =>
  simp only [Bool.false_eq_true,if_false]
  exact ev_const false
 | some s =>
  have hlen:= starts_len l [] s hst
  simp only [List.length_nil] at hlen
  have c0:0 <= ((l.length - 1:Nat):Int):= by omega
  have c1:((l.length - 1:Nat):Int) < (s.length:Int):= by omega
  simp only [if_true,if_pos c0,if_pos c1]
  exact ev_const _
theorem impl_s1 (l x st:List Int) (L L2:List S43) (hx:x.length = L.length) (hp:∀ j,j < st.length -> x[j]? = st[j]?) (hi:st.length < L.length) (hl:lowM st) (hn:L.length <= 1048576) (ks:List Int) (hk:ks.length <= 3) {R:Bool} {q:Int} :
  ∀ (m:Nat) (a:Int),m <= ks.length -> 0 <= a -> a <= st.length ->
  (∀ b,walkM st a (ks.take m).reverse = some b -> Ev (fun k => impl_NodesOk.l0 k L (x.set st.length b) L2 q ((st.length + 1:Nat):Int)) R) -> (walkM st a (ks.take m).reverse = none -> R = false) ->
  Ev (fun k => impl_NodesOk.l1 k L x (st.length:Int) ks a ((m:Int) - 1) L2 q (st.length:Int)) R:= by
 intro m
 induction m with
 | zero =>
  intro a hm h0 h1 hs hz
  apply ev_step
  have c:¬ ((0:Nat):Int) - 1 >= 0:= by omega
  have c2:(st.length:Int) < (x.length:Int):= by omega
  have c3:0 <= (st.length:Int):= by omega
  simp only [impl_NodesOk.l1,if_neg c,if_pos c2,if_pos c3,wrap_next st.length (by omega),Int.toNat_natCast]
  exact hs a rfl
 | succ m ih =>
  intro a hm h0 h1 hs hz
  apply ev_step
  have e:((m + 1:Nat):Int) - 1 = (m:Int):= by omega
  have c:(m:Int) >= 0:= by omega
  have c1:0 <= (m:Int):= by omega
  have c2:(m:Int) < (ks.length:Int):= by omega
  have hm':m < ks.length:= by omega
  have er:(ks.take (m + 1)).reverse = ks[m] :: (ks.take m).reverse:= by
   rw [List.take_succ_eq_append_getElem hm',List.reverse_append]
   rfl
  rw [er] at hs hz
  rw [e]
  simp only [impl_NodesOk.l1,if_pos c,if_pos c1,if_pos c2,rd_get ks m hm',wrap_prev a h0 (by omega),wrap_prev (m:Int) (by omega) (by omega)]
  generalize ks[m] = y at hs hz ⊢
  by_cases d0:a = 0
  ·simp only [if_pos d0]
   rw [walkM,if_neg (by omega)] at hz
   rw [hz rfl]
   exact ev_const _
  ·simp only [if_neg d0]
   by_cases d:y = a - 1
   ·have d3:0 <= a - 1:= by omega
    have d4:a - 1 < (x.length:Int):= by omega
    simp only [if_pos d,if_pos d3,if_pos d4]
    subst d
    rw [walkM,if_pos ⟨rfl,d3⟩] at hz hs
    obtain ⟨j,hj⟩:∃ j:Nat,a - 1 = (j:Int):= ⟨(a - 1).toNat,by omega⟩
    rw [hj] at hs hz ⊢
    have hj2:j < st.length:= by omega
    have:= hl j hj2
    have ex:rd x (j:Int) = st[j]:= by
     rw [rd_get x j (by omega)]
     have:= hp j hj2
     rw [List.getElem?_eq_getElem (by omega),List.getElem?_eq_getElem hj2] at this
     exact Option.some.inj this
    rw [ex]
    rw [rd_get st j hj2] at hs hz
    exact ih _ (by omega) this.1 (by omega) hs hz
   ·simp only [if_neg d]
    rw [walkM,if_neg (by omega)] at hz
    rw [hz rfl]
    exact ev_const _
theorem impl_s0 (l:List S43) (h1:1 <= l.length) (hn:l.length <= 1048576) (hs:∀ x ∈ l,small x) (m:Nat):∀ (st x:List Int),lowM st -> x.length = l.length -> (∀ j,j < st.length -> x[j]? = st[j]?) -> st.length + m = l.length ->
  Ev (fun k => impl_NodesOk.l0 k l x l (l.length:Int) (st.length:Int)) (match startsM (l.drop st.length) st with | some s => rd s ((l.length - 1:Nat):Int) == 0 | none => false):= by
 induction m with
 | zero =>
  intro st x hl hx hp hm
  rw [List.drop_of_length_le (by omega)]
  apply ev_step
  have c:¬ (st.length:Int) < (l.length:Int):= by omega
  have e:wrap64 ((l.length:Int) - 1) = ((l.length - 1:Nat):Int):= by unfold wrap64; omega
  have c0:0 <= ((l.length - 1:Nat):Int):= by omega
  have c1:((l.length - 1:Nat):Int) < (x.length:Int):= by omega
  have ex:x = st:= all_grown (by omega) hp
  simp only [impl_NodesOk.l0,if_neg c,e,if_pos c0,if_pos c1,startsM]
  rw [ex]
  exact ev_const _
 | succ m ih =>
  intro st x hl hx hp hm
  have hi:st.length < l.length:= by omega
  rw [List.drop_eq_getElem_cons hi]
  apply ev_step
  have c:(st.length:Int) < (l.length:Int):= by omega
  have c0:0 <= (st.length:Int):= by omega
  simp only [impl_NodesOk.l0,if_pos c,if_pos c0,rdN_get l st.length hi,startsM]
  refine ev_bind (impl_fields l[st.length] (hs _ (List.getElem_mem hi))) ?_
  cases hf:fieldsM l[st.length]
  ·simp only [Bool.false_eq_true,if_false]
   exact ev_const _
  ·simp only [if_true]
   refine ev_bind (impl_kids l[st.length]) ?_
   have hk:= kidsM_len l[st.length]
   have ha:= ar_most l[st.length].f0
   generalize kidsM l[st.length] = ks at hk ⊢
   have e:wrap64 ((ks.length:Int) - 1) = (ks.length:Int) - 1:= by unfold wrap64; omega
   rw [e]
   refine impl_s1 [] x st l l hx hp hi hl hn ks (by omega) ks.length st.length (by omega) (by omega) (by omega) ?_ ?_
   ·intro b hb
    rw [List.take_length] at hb
    rw [hb]
    have hw:= walk_low hl _ _ _ (by omega) (by omega) hb
    have:= ih (st ++ [b]) (x.set st.length b) (low_next hl hw.1 hw.2) (by rw [List.length_set]; exact hx) ?_ (by simp; omega)
    ·simpa using this
    ·intro j hj
     by_cases e:j < st.length
     ·rw [List.getElem?_set_ne (by omega),List.getElem?_append_left e]
      exact hp j e
     ·have:j = st.length:= by simp at hj; omega
      subst this
      rw [List.getElem?_set_self (by omega)]
      simp
   ·intro hb
    rw [List.take_length] at hb
    rw [hb]
theorem impl_ok (l:List S43) (hn:l.length <= 1048576) (hs:∀ x ∈ l,small x):Ev (fun k => impl_NodesOk.f k l) (okM l):= by
 unfold impl_NodesOk.f okM
 simp only [in_same,in_some,Option.bind_some]
 by_cases h:1 <= (l.length:Int) /\ (l.length:Int) <= 150
 rotate_left
 ·simp only [decide_eq_false h,Bool.false_eq_true,if_false]
  exact ev_const false
 simp only [decide_eq_true h,if_true,Bool.true_and]
 have c0:0 <= (l.length:Int):= by omega
 have c1:((l.length:Int)).toNat <= 35184372088832:= by omega
 simp only [if_pos c0,if_pos c1]
 exact impl_s0 l (by omega) hn hs l.length [] _ (by intro j hj; simp at hj) (by simp) (by intro j hj; simp at hj) (by simp)
theorem walk_more {st:List Int} (t:List Int) (hl:lowM st):∀ (cs:List Int) (a b:Int),0 <= a -> a <= st.length -> walkM st a cs = some b -> walkM (st ++ t) a cs = some b:= by
 intro cs
 induction cs with
 | nil => intro a b _ _ h; exact h
 | cons c cs ih =>
  intro a b h0 h1 h
  rw [walkM] at h ⊢
  split at h
  ·rename_i hc
   rw [if_pos hc]
   obtain ⟨j,rfl⟩:∃ j:Nat,c = (j:Int):= ⟨c.toNat,by omega⟩
   have hj:j < st.length:= by omega
   rw [rd_get st j hj] at h
   rw [rd_get (st ++ t) j (by simp; omega),List.getElem_append_left hj]
   have:= hl j hj
   exact ih _ _ this.1 (by omega) h
  ·cases h
structure Tree (l:List S43) (st:List Int):Prop where
 len:st.length = l.length
 low:lowM st
 node:∀ (i:Nat) (h:i < l.length),fieldsM l[i] = true /\ walkM st (i:Int) (kidsM l[i]).reverse = some (st[i]'(by omega))
theorem starts_tree:∀ (ns:List S43) (st0 st:List Int),lowM st0 -> startsM ns st0 = some st -> lowM st /\ (∃ t,st = st0 ++ t) /\ ∀ (i:Nat) (h:i < ns.length) (h2:st0.length + i < st.length),fieldsM ns[i] = true /\ walkM st ((st0.length + i:Nat):Int) (kidsM ns[i]).reverse = some st[st0.length + i]:= by
 intro ns
 induction ns with
 | nil => intro st0 st hl h; simp [startsM] at h; subst h; exact ⟨hl,⟨[],by simp⟩,fun i h => by simp at h⟩
 | cons n ns ih =>
  intro st0 st hl h
  rw [startsM] at h
  split at h
  ·rename_i hf
   split at h
   ·rename_i a hw
    have hb:= walk_low hl _ _ _ (by omega) (by omega) hw
    obtain ⟨h1,⟨t,rfl⟩,h3⟩:= ih _ _ (low_next hl hb.1 hb.2) h
    refine ⟨h1,⟨[a] ++ t,by simp⟩,?_⟩
    intro i hi h2
    cases i with
    | zero =>
     refine ⟨hf,?_⟩
     have:= walk_more ([a] ++ t) hl _ _ _ (by omega) (by omega) hw
     simp only [List.getElem_cons_zero,Nat.add_zero]
     rw [<- List.append_assoc] at this
     rw [this]
     congr 1
     simp
    | succ i =>
     have e:st0.length + (i + 1) = (st0 ++ [a]).length + i:= by simp; omega
     have:= h3 i (by simpa using hi) (by omega)
     simp only [List.getElem_cons_succ]
     refine ⟨this.1,?_⟩
     have h4:= this.2
     simp only [e]
     exact h4
   ·cases h
  ·cases h
theorem tree_of {l:List S43} {st:List Int} (h:startsM l [] = some st):Tree l st:= by
 have h0:lowM ([]:List Int):= by intro j hj; simp at hj
 obtain ⟨h1,_,h3⟩:= starts_tree l [] st h0 h
 have hlen:= starts_len l [] st h
 simp only [List.length_nil,Nat.zero_add] at hlen
 refine ⟨hlen,h1,fun i hi => ?_⟩
 have:= h3 i hi (by simp; omega)
 simpa using this
theorem ok_tree {l:List S43} (h:okM l = true):1 <= l.length /\ l.length <= 150 /\ ∃ st,startsM l [] = some st /\ Tree l st /\ rd st ((l.length - 1:Nat):Int) = 0:= by
 unfold okM at h
 rw [Bool.and_eq_true] at h
 obtain ⟨h1,h2⟩:= h
 have h1:= of_decide_eq_true h1
 refine ⟨by omega,by omega,?_⟩
 cases hs:startsM l [] with
 | none => rw [hs] at h2; cases h2
 | some st => rw [hs] at h2; exact ⟨st,rfl,tree_of hs,by simpa using h2⟩
theorem walk_split (st:List Int) (ys:List Int):∀ (xs:List Int) (a:Int),walkM st a (xs ++ ys) = (walkM st a xs).bind fun b => walkM st b ys:= by
 intro xs
 induction xs with
 | nil => intro a; rfl
 | cons x xs ih =>
  intro a
  simp only [List.cons_append,walkM]
  split
  ·exact ih _
  ·rfl
theorem walk_kid {st:List Int} (hl:lowM st):∀ (cs:List Int) (a b:Int),0 <= a -> a <= st.length -> walkM st a cs = some b -> ∀ c ∈ cs,0 <= c /\ c < a:= by
 intro cs
 induction cs with
 | nil => intro a b _ _ _ c hc; cases hc
 | cons x cs ih =>
  intro a b h0 h1 h c hc
  rw [walkM] at h
  split at h
  ·rename_i hx
   obtain ⟨j,rfl⟩:∃ j:Nat,x = (j:Int):= ⟨x.toNat,by omega⟩
   have hj:j < st.length:= by omega
   rw [rd_get st j hj] at h
   have:= hl j hj
   rcases List.mem_cons.1 hc with rfl | hc
   ·omega
   ·have:= ih _ _ this.1 (by omega) h c hc
    omega
  ·cases h
theorem Tree.kid {l:List S43} {st:List Int} (h:Tree l st) (i:Nat) (hi:i < l.length):∀ c ∈ kidsM l[i],0 <= c /\ c < i:= by
 intro c hc
 have:= h.len
 exact walk_kid h.low _ _ _ (by omega) (by omega) (h.node i hi).2 c (List.mem_reverse.2 hc)
theorem kids_first (n:S43) (h:0 < ar n.f0):∃ r,kidsM n = n.f1 :: r:= by
 unfold kidsM
 obtain ⟨m,hm⟩:∃ m,ar n.f0 = m + 1:= ⟨ar n.f0 - 1,by omega⟩
 rw [hm]
 exact ⟨_,rfl⟩
theorem Tree.first {l:List S43} {st:List Int} (h:Tree l st) (i:Nat) (hi:i < l.length) (ha:0 < ar l[i].f0):0 <= l[i].f1 /\ l[i].f1 < i /\ rd st l[i].f1 = rd st i:= by
 obtain ⟨r,hr⟩:= kids_first l[i] ha
 have hk:= h.kid i hi l[i].f1 (by rw [hr]; exact List.mem_cons_self)
 refine ⟨hk.1,hk.2,?_⟩
 have hw:= (h.node i hi).2
 rw [hr,List.reverse_cons,walk_split] at hw
 cases hb:walkM st (i:Int) r.reverse with
 | none => rw [hb] at hw; cases hw
 | some b =>
  rw [hb] at hw
  simp only [Option.bind_some,walkM] at hw
  split at hw
  ·rw [rd_get st i (by have:= h.len; omega)]
   exact Option.some.inj hw
  ·cases hw
theorem Tree.leaf {l:List S43} {st:List Int} (h:Tree l st) (i:Nat) (hi:i < l.length) (ha:ar l[i].f0 = 0):rd st i = i:= by
 have hw:= (h.node i hi).2
 have e:kidsM l[i] = []:= by unfold kidsM; rw [ha]; rfl
 rw [e] at hw
 rw [rd_get st i (by have:= h.len; omega)]
 exact (Option.some.inj hw).symm
theorem node_small {a:List S42} (lb:∀ x ∈ a,x.f5.size <= 1048576 /\ x.f6.size <= 1048576):∀ x ∈ a.map nodeOf,small x:= by
 intro x hx
 obtain ⟨y,hy,rfl⟩:= List.mem_map.1 hx
 exact lb y hy
theorem ev_nodes (a:List S42) (la:a.length <= 1048576):Ev (fun k => laws_toNodeS.f k a) (a.map nodeOf):= Ev.of (fun k => laws_toNodeS.mono _ k) (to_nodes a la 1048577 (by omega))
theorem ev_same (l:List S43) (ln:l.length <= 1048576):Ev (fun k => laws_eqNodeS.f k l l) true:= Ev.of (fun k => laws_eqNodeS.mono _ _ k) (eq_nodes l ln 1048577 (by omega))
theorem in_place (l:List S43) (i:Int) (hn:1 <= l.length /\ l.length <= 150):spec_l1In.f i 0 (wrap64 ((l.length:Int) - 1)) = some (decide (0 <= i /\ i < l.length)):= by
 have e:wrap64 ((l.length:Int) - 1) = (l.length:Int) - 1:= by unfold wrap64; omega
 rw [e,in_some]
 congr 1
 exact decide_eq_decide.2 (by omega)
theorem digs (l:List UInt8):(⟨l.toArray⟩:ByteArray).size = l.length:= by simp [ByteArray.size]
theorem one_num (d:Nat) (h:d < 10):strOfNums [wrap64 (48 + (d:Int)) % 256] = (⟨[UInt8.ofNat (48 + d)].toArray⟩:ByteArray):= by
 have e:wrap64 (48 + (d:Int)) % 256 = ((48 + d:Nat):Int):= by unfold wrap64; omega
 rw [e]
 unfold strOfNums
 simp only [List.map_cons,List.map_nil]
 rfl
theorem bytes_add (a b:List UInt8):(⟨a.toArray⟩:ByteArray) ++ (⟨b.toArray⟩:ByteArray) = (⟨(a ++ b).toArray⟩:ByteArray):= ByteArray.mk_append_mk a b
theorem dec_step (u:Nat) (h:10 <= u):Lib.decDigits u = Lib.decDigits (u / 10) ++ [UInt8.ofNat (48 + u % 10)]:= by
 rw [Lib.decDigits,dif_neg (by omega)]
theorem dec_last (u:Nat) (h:u < 10):Lib.decDigits u = [UInt8.ofNat (48 + u)]:= by
 rw [Lib.decDigits,dif_pos h]
theorem dec_len (d:Nat):∀ u:Nat,u < 10 ^ d -> (Lib.decDigits u).length <= d + 1:= by
 induction d with
 | zero => intro u h; rw [dec_last u (by simp at h; omega)]; simp
 | succ d ih =>
  intro u h
  by_cases c:u < 10
  ·rw [dec_last u c]; simp
  ·rw [dec_step u (by omega),List.length_append]
   have:= ih (u / 10) (by rw [Nat.pow_succ] at h; omega)
   simp
   omega
theorem dec_end (x3:ByteArray) (b:Bool) (hs:x3.size <= 1000):Ev (fun k => spec_Dec.l0 k 0 x3 b) (if b = true then (⟨#[45]⟩:ByteArray) ++ x3 else x3):= by
 apply ev_step
 have h1:1 + x3.size <= 9223372036854775807:= by omega
 cases b
 ·simp only [spec_Dec.l0,if_true,Bool.false_eq_true,if_false]
  exact ev_const _
 ·simp only [spec_Dec.l0,if_true,if_pos h1]
  exact ev_const _
theorem dec_loop (u:Nat):∀ (x:Int) (t:List UInt8) (b:Bool),u <= 9223372036854775808 -> 0 < u -> (x = (u:Int) /\ u <= 9223372036854775807 \/ x = -(u:Int)) -> t.length + u.log2 <= 500 ->
  Ev (fun k => spec_Dec.l0 k x (⟨t.toArray⟩:ByteArray) b) (if b = true then (⟨#[45]⟩:ByteArray) ++ (⟨(Lib.decDigits u ++ t).toArray⟩:ByteArray) else (⟨(Lib.decDigits u ++ t).toArray⟩:ByteArray)):= by
 induction u using Nat.strongRecOn with
 | _ u ih =>
  intro x t b hu h0 hx ht
  have hne:¬ x = 0:= by omega
  have hd:u % 10 < 10:= Nat.mod_lt _ (by omega)
  have hsz:(strOfNums [wrap64 (48 + ((u % 10:Nat):Int)) % 256]).size = 1:= rfl
  have hts:(⟨t.toArray⟩:ByteArray).size = t.length:= digs t
  have h1:(strOfNums [wrap64 (48 + ((u % 10:Nat):Int)) % 256]).size + (⟨t.toArray⟩:ByteArray).size <= 9223372036854775807:= by rw [hsz,hts]; omega
  have next:Ev (fun k => spec_Dec.l0 k (wrap64 (Int.tdiv x 10)) (strOfNums [wrap64 (48 + ((u % 10:Nat):Int)) % 256] ++ (⟨t.toArray⟩:ByteArray)) b) (if b = true then (⟨#[45]⟩:ByteArray) ++ (⟨(Lib.decDigits u ++ t).toArray⟩:ByteArray) else (⟨(Lib.decDigits u ++ t).toArray⟩:ByteArray)):= by
   rw [one_num _ hd,bytes_add]
   by_cases c:u < 10
   ·have e:wrap64 (Int.tdiv x 10) = 0:= by
     rcases hx with ⟨rfl,_⟩ | rfl
     ·rw [Int.tdiv_eq_ediv_of_nonneg (by omega)]; unfold wrap64; omega
     ·rw [Int.neg_tdiv,Int.tdiv_eq_ediv_of_nonneg (by omega)]; unfold wrap64; omega
    rw [e,dec_last u c,show u % 10 = u from Nat.mod_eq_of_lt c]
    exact dec_end _ b (by rw [digs]; simp; omega)
   ·have hl:(u / 10).log2 + 1 <= u.log2:= by
     have h2:u / 10 <= u / 2:= by omega
     have h4:2 ^ u.log2 <= u:= Nat.log2_self_le (by omega)
     have h5:u < 2 ^ (u.log2 + 1):= Nat.lt_log2_self
     have h6:(u / 10).log2 < u.log2:= (Nat.log2_lt (by omega)).2 (by rw [Nat.pow_succ] at h5; omega)
     omega
    have:= ih (u / 10) (by omega) (wrap64 (Int.tdiv x 10)) ([UInt8.ofNat (48 + u % 10)] ++ t) b (by omega) (by omega) (by
     rcases hx with ⟨rfl,hx⟩ | rfl
     ·left
      rw [Int.tdiv_eq_ediv_of_nonneg (by omega)]; unfold wrap64; omega
     ·right
      rw [Int.neg_tdiv,Int.tdiv_eq_ediv_of_nonneg (by omega)]; unfold wrap64; omega) (by simp; omega)
    rw [dec_step u (by omega),List.append_assoc]
    exact this
  apply ev_step
  by_cases hn:Int.tmod x 10 < 0
  ·have e:wrap64 (-(Int.tmod x 10)) = ((u % 10:Nat):Int):= by
    rcases hx with ⟨rfl,_⟩ | rfl
    ·rw [Int.tmod_eq_emod_of_nonneg (by omega)] at hn; omega
    ·rw [Int.neg_tmod,Int.tmod_eq_emod_of_nonneg (by omega)]; unfold wrap64; omega
   simp only [spec_Dec.l0,if_neg hne,if_pos hn,Option.bind_some,e,if_pos h1]
   exact next
  ·have e:Int.tmod x 10 = ((u % 10:Nat):Int):= by
    rcases hx with ⟨rfl,_⟩ | rfl
    ·rw [Int.tmod_eq_emod_of_nonneg (by omega)]; omega
    ·rw [Int.neg_tmod,Int.tmod_eq_emod_of_nonneg (by omega)] at hn ⊢; omega
   simp only [spec_Dec.l0,if_neg hne,if_neg hn,Option.bind_some,e,if_pos h1]
   exact next
def decM (n:Int):ByteArray:= ⟨(Lib.itoa n).toArray⟩
theorem decM_size (n:Int) (h0:-9223372036854775808 <= n) (h1:n <= 9223372036854775807):(decM n).size <= 22:= by
 unfold decM Lib.itoa
 rw [digs]
 have h10:(10:Nat) ^ 20 = 100000000000000000000:= by decide
 split
 ·have:= dec_len 20 n.natAbs (by rw [h10]; omega)
  simp
  omega
 ·have:= dec_len 20 n.toNat (by rw [h10]; omega)
  omega
theorem spec_dec (n:Int) (h0:-9223372036854775808 <= n) (h1:n <= 9223372036854775807):Ev (fun k => spec_Dec.f k n) (decM n):= by
 unfold spec_Dec.f
 by_cases c:n = 0
 ·simp only [if_pos c]
  refine ev_eq (ev_const _) ?_
  subst c
  unfold decM Lib.itoa
  rw [if_neg (by omega)]
  rw [show (0:Int).toNat = 0 from rfl,dec_last 0 (by omega)]
  rfl
 ·simp only [if_neg c]
  have hl:n.natAbs.log2 <= 64:= by
   have:n.natAbs.log2 < 65:= (Nat.log2_lt (by omega)).2 (by omega)
   omega
  have:= dec_loop n.natAbs n [] (decide (n < 0)) (by omega) (by omega) (by omega) (by simp; omega)
  refine ev_eq this ?_
  unfold decM Lib.itoa
  rw [List.append_nil]
  by_cases s:n < 0
  ·rw [decide_eq_true s,if_pos rfl,if_pos s]
   rw [show (⟨#[45]⟩:ByteArray) = (⟨[45].toArray⟩:ByteArray) from rfl,bytes_add]
   rfl
  ·rw [decide_eq_false s,if_neg (by simp),if_neg s,show n.natAbs = n.toNat by omega]
def opWords:List ByteArray:= [(⟨#[97,100,100]⟩:ByteArray),(⟨#[115,117,98]⟩:ByteArray),(⟨#[108,101,115,115]⟩:ByteArray),(⟨#[115,97,109,101]⟩:ByteArray)]
theorem op_split:strings_Split.f 60 (⟨#[97,100,100,32,115,117,98,32,108,101,115,115,32,115,97,109,101]⟩:ByteArray) (⟨#[32]⟩:ByteArray) = some opWords:= by decide +kernel
def kindWords:List ByteArray:= [(⟨#[]⟩:ByteArray),(⟨#[45]⟩:ByteArray),(⟨#[102,117,110]⟩:ByteArray),(⟨#[97,112,112]⟩:ByteArray),(⟨#[108,101,116]⟩:ByteArray),(⟨#[114,101,99]⟩:ByteArray),(⟨#[105,102]⟩:ByteArray),(⟨#[45]⟩:ByteArray),(⟨#[112,97,105,114]⟩:ByteArray),(⟨#[102,115,116]⟩:ByteArray),(⟨#[115,110,100]⟩:ByteArray),(⟨#[110,105,108]⟩:ByteArray),(⟨#[99,111,110,115]⟩:ByteArray),(⟨#[109,97,116,99,104]⟩:ByteArray),(⟨#[114,101,102]⟩:ByteArray),(⟨#[103,101,116]⟩:ByteArray),(⟨#[115,101,116]⟩:ByteArray),(⟨#[114,97,105,115,101]⟩:ByteArray),(⟨#[116,114,121]⟩:ByteArray)]
theorem kind_split:strings_Split.f 60 (⟨#[32,45,32,102,117,110,32,97,112,112,32,108,101,116,32,114,101,99,32,105,102,32,45,32,112,97,105,114,32,102,115,116,32,115,110,100,32,110,105,108,32,99,111,110,115,32,109,97,116,99,104,32,114,101,102,32,103,101,116,32,115,101,116,32,114,97,105,115,101,32,116,114,121]⟩:ByteArray) (⟨#[32]⟩:ByteArray) = some kindWords:= by decide +kernel
theorem key_at (k:Fin 17) (hk:k.val ≠ 5) (b c d e:Int) (n1 n2:ByteArray):spec_KeyOf.f ((k.val:Int) + 3) b c d e n1 n2 = some (rdOf ByteArray.empty kindWords ((k.val:Int) + 2)) /\ Ev (fun n => impl_KeyOf.f n ((k.val:Int) + 3) b c d e n1 n2) (rdOf ByteArray.empty kindWords ((k.val:Int) + 2)):= by
 have h8:¬ ((k.val:Int) + 3 = 8):= by omega
 have kp:impl_keyPlace.f ((k.val:Int) + 3) = some ((k.val:Int) + 2):= by
  unfold impl_keyPlace.f
  rw [if_neg (by omega)]
  congr 1
  unfold wrap64
  omega
 have c2:(k.val:Int) + 2 < (kindWords.length:Int):= by
  have:kindWords.length = 19:= rfl
  omega
 have c0:0 <= (k.val:Int) + 2:= by omega
 have e1:Ev (fun n => impl_KeyOf.f n ((k.val:Int) + 3) b c d e n1 n2) (rdOf ByteArray.empty kindWords ((k.val:Int) + 2)):= by
  unfold impl_KeyOf.f impl_in.f
  have hin:(k.val:Int) + 3 >= 1:= by omega
  have hin2:(k.val:Int) + 3 <= 19:= by omega
  simp only [if_neg h8,if_pos hin,decide_eq_true hin2,Option.bind_some,if_true,kp]
  refine ev_bind (Ev.of (fun k => strings_Split.mono _ _ k) kind_split) ?_
  simp only [if_pos c0,if_pos c2]
  exact ev_const _
 refine ⟨?_,e1⟩
 unfold spec_KeyOf.f spec_l1In.f
 have hin:(k.val:Int) + 3 >= 3:= by omega
 have hin2:(k.val:Int) + 3 <= 19:= by omega
 have w:wrap64 ((k.val:Int) + 3 - 3) = (k.val:Int):= by unfold wrap64; omega
 simp only [if_neg h8,if_pos hin,decide_eq_true hin2,Option.bind_some,if_true,w]
 clear w hin hin2 e1 c0 c2 kp h8
 revert k
 decide +kernel
def mk8 (t:List UInt8):ByteArray:= ⟨t.toArray⟩
theorem mk8_size (t:List UInt8):(mk8 t).size = t.length:= digs t
theorem mk8_tx (b:ByteArray):mk8 b.data.toList = b:= rfl
theorem mk8_add (a b:List UInt8):mk8 a ++ mk8 b = mk8 (a ++ b):= bytes_add a b
theorem mk8_bt (s:List UInt8) (j:Nat) (h:j < s.length):bt (mk8 s) (j:Int) = ((s[j]).toNat:Int):= by
 unfold bt
 rw [dif_pos (by rw [mk8_size]; exact h)]
 rfl
def shapes:List (List UInt8):= [[110,101],[101,101],[110,101,101],[110,110,101,101],[101,101,101],[101,101],[101,101],[101],[101],[],[101,101],[101,101,110,110,101],[101],[101],[101,101],[101],[101,110,101]]
def shapeK (k:Nat):List UInt8:= shapes.getD k []
theorem form_kind (k:Fin 17) (h5:k.val ≠ 5) (h9:k.val ≠ 9):spec_l4Form.f (rdOf ByteArray.empty kindWords ((k.val:Int) + 2)) = some ((k.val:Int) + 3,0,mk8 (shapeK k.val)) /\ impl_formOf.f (rdOf ByteArray.empty kindWords ((k.val:Int) + 2)) = some ((k.val:Int) + 3,0,0,0,0,(⟨#[]⟩:ByteArray),(⟨#[]⟩:ByteArray),mk8 (shapeK k.val)):= by
 obtain ⟨k,hk⟩:= k
 have q:k = 0 \/ k = 1 \/ k = 2 \/ k = 3 \/ k = 4 \/ k = 5 \/ k = 6 \/ k = 7 \/ k = 8 \/ k = 9 \/ k = 10 \/ k = 11 \/ k = 12 \/ k = 13 \/ k = 14 \/ k = 15 \/ k = 16:= by omega
 rcases q with rfl | rfl | rfl | rfl | rfl | rfl | rfl | rfl | rfl | rfl | rfl | rfl | rfl | rfl | rfl | rfl | rfl
 all_goals first | exact absurd rfl h5 | exact absurd rfl h9 | (refine ⟨?_,?_⟩ <;> (simp only [spec_l4Form.f,impl_formOf.f,impl_plainForm.f,ByteArray.toList_eq]; kernel_rfl))
theorem form_op (k:Fin 4):spec_l4Form.f (rdOf ByteArray.empty opWords (k.val:Int)) = some (8,(k.val:Int),mk8 [101,101]) /\ impl_formOf.f (rdOf ByteArray.empty opWords (k.val:Int)) = some (8,0,0,0,(k.val:Int),(⟨#[]⟩:ByteArray),(⟨#[]⟩:ByteArray),mk8 [101,101]):= by
 obtain ⟨k,hk⟩:= k
 have q:k = 0 \/ k = 1 \/ k = 2 \/ k = 3:= by omega
 rcases q with rfl | rfl | rfl | rfl
 all_goals (refine ⟨?_,?_⟩ <;> (simp only [spec_l4Form.f,impl_formOf.f,impl_plainForm.f,ByteArray.toList_eq]; kernel_rfl))
def namesIn:List UInt8 -> Nat
 | [] => 0
 | c :: cs => (if c = 110 then 1 else 0) + namesIn cs
def kidsIn:List UInt8 -> Nat
 | [] => 0
 | c :: cs => (if c = 110 then 0 else 1) + kidsIn cs
theorem shape_kind:∀ k:Fin 17,k.val ≠ 9 -> namesIn (shapeK k.val) <= 2 /\ kidsIn (shapeK k.val) <= ar ((k.val:Int) + 3) /\ (shapeK k.val).length <= 5 /\ (rdOf ByteArray.empty kindWords ((k.val:Int) + 2)).size <= 5:= by
 decide +kernel
theorem size_op:∀ k:Fin 4,(rdOf ByteArray.empty opWords (k.val:Int)).size <= 5:= by decide +kernel
theorem key_form (n:S43) (h3:3 <= n.f0) (h19:n.f0 <= 19) (h12:n.f0 ≠ 12) (h8:n.f0 = 8 -> 0 <= n.f4 /\ n.f4 <= 3) :
  ∃ (key s:List UInt8) (x1 x2 y4:Int),spec_KeyOf.f n.f0 n.f1 n.f2 n.f3 n.f4 n.f5 n.f6 = some (mk8 key) /\ Ev (fun k => impl_KeyOf.f k n.f0 n.f1 n.f2 n.f3 n.f4 n.f5 n.f6) (mk8 key) /\ spec_l4Form.f (mk8 key) = some (x1,x2,mk8 s) /\
   impl_formOf.f (mk8 key) = some (x1,0,0,0,y4,(⟨#[]⟩:ByteArray),(⟨#[]⟩:ByteArray),mk8 s) /\ namesIn s <= 2 /\ kidsIn s <= ar n.f0 /\ s.length <= 5 /\ key.length <= 5:= by
 by_cases e8:n.f0 = 8
 ·obtain ⟨q0,q3⟩:= h8 e8
  obtain ⟨k,hk⟩:∃ k:Fin 4,(k.val:Int) = n.f4:= ⟨⟨n.f4.toNat,by omega⟩,by simp only; omega⟩
  have f:= form_op k
  have z:= size_op k
  rw [hk] at f z
  have l4:n.f4 < ((opWords.length:Nat):Int):= by
   have:opWords.length = 4:= rfl
   omega
  have g0:n.f4 >= 0:= q0
  refine ⟨(rdOf ByteArray.empty opWords n.f4).data.toList,[101,101],_,_,_,?_,?_,f.1,f.2,by decide,by rw [e8]; decide,by decide,z⟩
  ·rw [mk8_tx,e8]
   unfold spec_KeyOf.f spec_l1In.f
   simp only [if_true,if_pos g0,decide_eq_true q3,Option.bind_some,if_pos q0]
   exact if_pos l4
  ·rw [mk8_tx,e8]
   unfold impl_KeyOf.f impl_in.f
   simp only [if_true,if_pos g0,decide_eq_true q3,Option.bind_some]
   refine ev_bind (Ev.of (fun k => strings_Split.mono _ _ k) op_split) ?_
   simp only [if_pos q0,if_pos l4]
   exact ev_const _
 ·obtain ⟨k,hk⟩:∃ k:Fin 17,(k.val:Int) + 3 = n.f0:= ⟨⟨(n.f0 - 3).toNat,by omega⟩,by simp only; omega⟩
  have k5:k.val ≠ 5:= by omega
  have k9:k.val ≠ 9:= by omega
  have f:= form_kind k k5 k9
  have z:= shape_kind k k9
  have a:= key_at k k5 n.f1 n.f2 n.f3 n.f4 n.f5 n.f6
  rw [hk] at a f z
  exact ⟨(rdOf ByteArray.empty kindWords ((k.val:Int) + 2)).data.toList,shapeK k.val,_,_,_,a.1,a.2,f.1,f.2,z.1,z.2.1,z.2.2.1,z.2.2.2⟩
def fillL:List UInt8 -> List (List UInt8) -> List (List UInt8) -> List (List UInt8)
 | [],_,_ => []
 | c :: cs,ns,ts => if c = 110 then ns.headD [] :: fillL cs ns.tail ts else ts.headD [] :: fillL cs ns ts.tail
def tailL (ps:List (List UInt8)):List UInt8:= (ps.map ([32] ++ ·)).flatten
theorem tail_len:∀ (s:List UInt8) (ns ts:List (List UInt8)),(∀ n ∈ ns,n.length <= 1048576) -> (tailL (fillL s ns ts)).length <= 1048577 * s.length + (ts.map List.length).sum:= by
 intro s
 induction s with
 | nil => intro ns ts h; simp [fillL,tailL]
 | cons c cs ih =>
  intro ns ts h
  unfold fillL
  split
  ·have:= ih ns.tail ts (fun n hn => h n (List.mem_of_mem_tail hn))
   have h1:(ns.headD []).length <= 1048576:= by
    cases ns with
    | nil => simp
    | cons x xs => exact h x List.mem_cons_self
   unfold tailL at this ⊢
   simp only [List.map_cons,List.flatten_cons,List.length_append,List.length_cons,List.length_nil]
   omega
  ·have:= ih ns ts.tail h
   unfold tailL at this ⊢
   cases ts with
   | nil =>
    simp only [List.map_cons,List.flatten_cons,List.length_append,List.length_cons,List.length_nil,List.headD_nil,List.tail_nil] at this ⊢
    omega
   | cons x xs =>
    simp only [List.map_cons,List.flatten_cons,List.length_append,List.length_cons,List.length_nil,List.headD_cons,List.tail_cons,List.sum_cons] at this ⊢
    omega
def RelT (l:List S43):List Int -> List (List UInt8) -> Prop
 | [],[] => True
 | c :: cs,t :: ts => (Ev (fun k => spec_l5Show.f k l c) (mk8 t) /\ Ev (fun k => impl_printNode.f k l c) (mk8 t) /\ t.length <= 1000000000) /\ RelT l cs ts
 | _,_ => False
theorem spec_fill (l:List S43) (s:List UInt8) (hs:s.length <= 5) (ns0:List (List UInt8)):∀ (rest pre:List UInt8) (ns:List (List UInt8)) (ks:List Int) (ts:List (List UInt8)) (a:List UInt8),s = pre ++ rest -> namesIn rest <= ns.length -> kidsIn rest <= ks.length -> RelT l ks ts -> (∀ n ∈ ns,n.length <= 1048576) -> ks.length <= 3 ->
  a.length + 1000000001 * rest.length <= 10000000000 ->
  Ev (fun k => spec_l5Show.l0 k l (mk8 s) (mk8 a) (ns.map mk8) ks (pre.length:Int)) (mk8 (a ++ tailL (fillL rest ns ts) ++ [41])):= by
 intro rest
 induction rest with
 | nil =>
  intro pre ns ks ts a e h1 h2 h3 h4 h5 h6
  have d:¬ (pre.length:Int) < ((mk8 s).size:Int):= by rw [mk8_size,e]; simp
  have s1:(mk8 a).size + 1 <= 9223372036854775807:= by rw [mk8_size]; omega
  apply ev_step
  simp only [spec_l5Show.l0,if_neg d,if_pos s1]
  refine ev_eq (ev_const _) ?_
  show mk8 a ++ mk8 [41] = _
  rw [mk8_add]
  simp [fillL,tailL]
 | cons c cs ih =>
  intro pre ns ks ts a e h1 h2 h3 h4 h5 h6
  have hp:pre.length < s.length:= by rw [e]; simp
  have d:(pre.length:Int) < ((mk8 s).size:Int):= by rw [mk8_size]; omega
  have d0:0 <= (pre.length:Int):= by omega
  have s1:(mk8 a).size + 1 <= 9223372036854775807:= by rw [mk8_size]; simp at h6; omega
  have hb:bt (mk8 s) (pre.length:Int) = (c.toNat:Int):= by
   rw [mk8_bt s pre.length hp]
   congr 2
   simp [e]
  have e':s = (pre ++ [c]) ++ cs:= by rw [e]; simp
  have w1:wrap64 ((pre.length:Int) + 1) = (((pre ++ [c]).length:Nat):Int):= by
   rw [wrap_next pre.length (by omega)]
   simp
  have q1:∀ t:List UInt8,mk8 a ++ (⟨#[32]⟩:ByteArray) ++ mk8 t = mk8 (a ++ ([32] ++ t)):= by
   intro t
   show mk8 a ++ mk8 [32] ++ mk8 t = _
   rw [mk8_add,mk8_add,List.append_assoc]
  have q2:(mk8 a ++ (⟨#[32]⟩:ByteArray)).size = a.length + 1:= by
   show (mk8 a ++ mk8 [32]).size = _
   rw [mk8_add,mk8_size]
   simp
  simp only [List.length_cons] at h6
  apply ev_step
  unfold fillL
  by_cases hc:c = 110
  ·have hb2:bt (mk8 s) (pre.length:Int) = 110:= by rw [hb,hc]; rfl
   cases ns with
   | nil => (simp [namesIn,hc] at h1) <;> omega
   | cons x xs =>
    have hx:= h4 x List.mem_cons_self
    have g1:0 < (((x :: xs).map mk8).length:Int):= by simp <;> omega
    have g2:1 <= (((x :: xs).map mk8).length:Int):= by simp <;> omega
    have g3:rdOf ByteArray.empty ((x :: xs).map mk8) 0 = mk8 x:= rfl
    have g4:((x :: xs).map mk8).drop (1:Int).toNat = xs.map mk8:= rfl
    have g5:(mk8 a ++ (⟨#[32]⟩:ByteArray)).size + (mk8 x).size <= 9223372036854775807:= by rw [q2,mk8_size]; omega
    simp only [spec_l5Show.l0,if_pos d,if_pos d0,if_pos hb2,if_pos s1,if_pos g1,if_pos g2,g3,g4,if_pos g5,q1,w1]
    have:= ih (pre ++ [c]) xs ks ts (a ++ ([32] ++ x)) e' (by simp [namesIn,hc] at h1; omega) (by simp [kidsIn,hc] at h2; exact h2) h3 (fun n hn => h4 n (List.mem_cons_of_mem _ hn)) h5 (by simp; omega)
    rw [if_pos hc]
    refine ev_eq this ?_
    simp [tailL]
  ·have hb2:¬ bt (mk8 s) (pre.length:Int) = 110:= by
    rw [hb]
    intro q
    apply hc
    apply UInt8.toNat_inj.1
    have:c.toNat = 110:= by omega
    rw [this]
    rfl
   cases ks with
   | nil => simp [kidsIn,hc] at h2
   | cons x xs =>
    cases ts with
    | nil => exact h3.elim
    | cons t ts =>
     obtain ⟨⟨r1,r2,r3⟩,r4⟩:= h3
     have g1:0 < ((x :: xs).length:Int):= by simp <;> omega
     have g2:1 <= ((x :: xs).length:Int):= by simp <;> omega
     have g3:rd (x :: xs) 0 = x:= rfl
     have g4:(x :: xs).drop (1:Int).toNat = xs:= rfl
     have g5:(mk8 a ++ (⟨#[32]⟩:ByteArray)).size + (mk8 t).size <= 9223372036854775807:= by rw [q2,mk8_size]; omega
     simp only [spec_l5Show.l0,if_pos d,if_pos d0,if_neg hb2,if_pos s1,if_pos g1,g3]
     refine ev_bind r1 ?_
     simp only [if_pos g5,if_pos g2,g4,q1,w1]
     have:= ih (pre ++ [c]) ns xs ts (a ++ ([32] ++ t)) e' (by simp [namesIn,hc] at h1; exact h1) (by simp [kidsIn,hc] at h2; omega) r4 h4 (by simp at h5; omega) (by simp; omega)
     rw [if_neg hc]
     refine ev_eq this ?_
     simp [tailL]
theorem join_key (key:List UInt8) (ps:List (List UInt8)):Lib.join (key :: ps) [32] = key ++ tailL ps:= by
 induction ps generalizing key with
 | nil => simp [Lib.join,tailL]
 | cons p ps ih =>
  have:= ih p
  unfold Lib.join tailL at *
  simp only [List.intercalate,List.intersperse_cons_cons,List.flatten_cons,List.map_cons] at this ⊢
  simp [this]
theorem impl_fill (l:List S43) (s:List UInt8) (hs:s.length <= 5) (key:List UInt8) (hk:key.length <= 5):∀ (rest pre:List UInt8) (ns:List (List UInt8)) (ks:List Int) (ts W:List (List UInt8)),s = pre ++ rest -> namesIn rest <= ns.length -> kidsIn rest <= ks.length -> RelT l ks ts -> (∀ n ∈ ns,n.length <= 1048576) -> ks.length <= 3 ->
  W.length <= pre.length -> (tailL W).length + 1000000001 * rest.length <= 10000000000 ->
  Ev (fun k => impl_printNode.l0 k l (mk8 s) ((key :: W).map mk8) (ns.map mk8) ks (pre.length:Int)) (mk8 ([40] ++ (key ++ tailL (W ++ fillL rest ns ts)) ++ [41])):= by
 intro rest
 induction rest with
 | nil =>
  intro pre ns ks ts W e h1 h2 h3 h4 h5 hW h6
  have d:¬ (pre.length:Int) < ((mk8 s).size:Int):= by rw [mk8_size,e]; simp
  have hp:pre.length <= 5:= by rw [e] at hs; simp at hs; exact hs
  have ej:(((key :: W).map mk8).map fun x => x.data.toList) = key :: W:= by
   rw [List.map_map]
   simp [mk8,Function.comp_def]
  have jl:(Lib.join (((key :: W).map mk8).map fun x => x.data.toList) [32]).length <= 20000000000:= by
   rw [ej,join_key,List.length_append]
   simp at h6
   omega
  have jj:strings_Join.f ((key :: W).map mk8) (⟨#[32]⟩:ByteArray) = some (mk8 (key ++ tailL W)):= by
   unfold strings_Join.f
   rw [if_pos (by simp; omega)]
   show (if (Lib.join (((key :: W).map mk8).map fun x => x.data.toList) [32]).length <= 140737488355328 then some (mk8 (Lib.join (((key :: W).map mk8).map fun x => x.data.toList) [32])) else none) = _
   rw [if_pos (by omega),ej,join_key]
  have z:(mk8 (key ++ tailL W)).size <= 20000000000:= by
   rw [mk8_size,List.length_append]
   simp at h6
   omega
  have z1:1 + (mk8 (key ++ tailL W)).size <= 9223372036854775807:= by omega
  have q:(⟨#[40]⟩:ByteArray) ++ mk8 (key ++ tailL W) = mk8 ([40] ++ (key ++ tailL W)):= mk8_add [40] _
  have z2:(mk8 ([40] ++ (key ++ tailL W))).size + 1 <= 9223372036854775807:= by
   rw [mk8_size] at z ⊢
   simp at z ⊢
   omega
  apply ev_step
  simp only [impl_printNode.l0,if_neg d,jj,Option.bind_some,if_pos z1,q,if_pos z2]
  refine ev_eq (ev_const _) ?_
  show mk8 _ ++ mk8 [41] = _
  rw [mk8_add]
  simp [fillL]
 | cons c cs ih =>
  intro pre ns ks ts W e h1 h2 h3 h4 h5 hW h6
  have hp:pre.length < s.length:= by rw [e]; simp
  have d:(pre.length:Int) < ((mk8 s).size:Int):= by rw [mk8_size]; omega
  have d0:0 <= (pre.length:Int):= by omega
  have s1:((key :: W).map mk8).length < 8796093022208:= by simp; omega
  have hb:bt (mk8 s) (pre.length:Int) = (c.toNat:Int):= by
   rw [mk8_bt s pre.length hp]
   congr 2
   simp [e]
  have e':s = (pre ++ [c]) ++ cs:= by rw [e]; simp
  have w1:wrap64 ((pre.length:Int) + 1) = (((pre ++ [c]).length:Nat):Int):= by
   rw [wrap_next pre.length (by omega)]
   simp
  have q1:∀ t:List UInt8,(key :: W).map mk8 ++ [mk8 t] = (key :: (W ++ [t])).map mk8:= by intro t; simp
  have q2:∀ t:List UInt8,(tailL (W ++ [t])).length = (tailL W).length + (1 + t.length):= by
   intro t
   unfold tailL
   simp
   omega
  simp only [List.length_cons] at h6
  apply ev_step
  unfold fillL
  by_cases hc:c = 110
  ·have hb2:bt (mk8 s) (pre.length:Int) = 110:= by rw [hb,hc]; rfl
   cases ns with
   | nil => (simp [namesIn,hc] at h1) <;> omega
   | cons x xs =>
    have hx:= h4 x List.mem_cons_self
    have g1:0 < (((x :: xs).map mk8).length:Int):= by simp <;> omega
    have g2:1 <= (((x :: xs).map mk8).length:Int):= by simp <;> omega
    have g3:rdOf ByteArray.empty ((x :: xs).map mk8) 0 = mk8 x:= rfl
    have g4:((x :: xs).map mk8).drop (1:Int).toNat = xs.map mk8:= rfl
    simp only [impl_printNode.l0,if_pos d,if_pos d0,if_pos hb2,if_pos s1,if_pos g1,if_pos g2,g3,g4,q1,w1]
    have:= ih (pre ++ [c]) xs ks ts (W ++ [x]) e' (by simp [namesIn,hc] at h1; omega) (by simp [kidsIn,hc] at h2; exact h2) h3 (fun n hn => h4 n (List.mem_cons_of_mem _ hn)) h5 (by simp; omega) (by rw [q2]; omega)
    rw [if_pos hc]
    refine ev_eq this ?_
    simp
  ·have hb2:¬ bt (mk8 s) (pre.length:Int) = 110:= by
    rw [hb]
    intro q
    apply hc
    apply UInt8.toNat_inj.1
    have:c.toNat = 110:= by omega
    rw [this]
    rfl
   cases ks with
   | nil => simp [kidsIn,hc] at h2
   | cons x xs =>
    cases ts with
    | nil => exact h3.elim
    | cons t ts =>
     obtain ⟨⟨r1,r2,r3⟩,r4⟩:= h3
     have g1:0 < ((x :: xs).length:Int):= by simp <;> omega
     have g2:1 <= ((x :: xs).length:Int):= by simp <;> omega
     have g3:rd (x :: xs) 0 = x:= rfl
     have g4:(x :: xs).drop 1 = xs:= rfl
     simp only [impl_printNode.l0,if_pos d,if_pos d0,if_neg hb2,if_pos g1,g3]
     refine ev_bind r2 ?_
     simp only [if_pos s1,if_pos g2,g4,q1,w1]
     have:= ih (pre ++ [c]) ns xs ts (W ++ [t]) e' (by simp [namesIn,hc] at h1; exact h1) (by simp [kidsIn,hc] at h2; omega) r4 h4 (by simp at h5; omega) (by simp; omega) (by rw [q2]; omega)
     rw [if_neg hc]
     refine ev_eq this ?_
     simp
theorem kids_rel {l:List S43} {st:List Int} (h:Tree l st) (hl:l.length <= 150) (i:Nat) (hi:i < l.length)
  (ih:∀ c:Nat,c < i -> ∃ t:List UInt8,Ev (fun k => spec_l5Show.f k l (c:Int)) (mk8 t) /\ Ev (fun k => impl_printNode.f k l (c:Int)) (mk8 t) /\ (t.length:Int) <= 6000000 * ((c:Int) - rd st c + 1)) :
  ∀ cs:List Int,(∀ c ∈ cs,0 <= c /\ c < i) -> ∃ ts,RelT l cs ts /\ ((ts.map List.length).sum:Int) <= 6000000 * (cs.map fun c => c - rd st c + 1).sum:= by
 intro cs
 induction cs with
 | nil => intro _; exact ⟨[],trivial,by simp⟩
 | cons c cs ihc =>
  intro hc
  obtain ⟨ts,r1,r2⟩:= ihc (fun x hx => hc x (List.mem_cons_of_mem _ hx))
  obtain ⟨c0,c1⟩:= hc c List.mem_cons_self
  obtain ⟨j,rfl⟩:∃ j:Nat,c = (j:Int):= ⟨c.toNat,by omega⟩
  obtain ⟨t,t1,t2,t3⟩:= ih j (by omega)
  have hlow:= h.low j (by rw [h.len]; omega)
  rw [rd_get st j (by rw [h.len]; omega)] at t3
  refine ⟨t :: ts,⟨⟨t1,t2,by omega⟩,r1⟩,?_⟩
  simp only [List.map_cons,List.sum_cons]
  rw [rd_get st j (by rw [h.len]; omega)]
  omega
theorem walk_sum (st:List Int):∀ (cs:List Int) (a b:Int),walkM st a cs = some b -> (cs.map fun c => c - rd st c + 1).sum = a - b:= by
 intro cs
 induction cs with
 | nil => intro a b h; simp [walkM] at h; subst h; simp
 | cons c cs ih =>
  intro a b h
  rw [walkM] at h
  split at h
  ·rename_i hc
   have:= ih _ _ h
   simp only [List.map_cons,List.sum_cons,this]
   omega
  ·cases h
theorem sum_rev (xs:List Int):xs.reverse.sum = xs.sum:= by
 induction xs with
 | nil => rfl
 | cons x xs ih =>
  rw [List.reverse_cons,List.sum_append,ih]
  simp
  omega
theorem num_prim {n:S43} (h:numM n = true) (e:n.f0 = 8):0 <= n.f4 /\ n.f4 <= 3:= by
 unfold numM at h
 rw [if_neg (by omega),if_pos e] at h
 simpa using h
theorem num_int {n:S43} (h:numM n = true) (e:n.f0 = 2):0 <= n.f4 /\ n.f4 <= 65535:= by
 unfold numM at h
 rw [if_pos e] at h
 simpa using h
theorem impl_dec (n:Int) (h0:-9223372036854775808 <= n) (h1:n <= 9223372036854775807):impl_Dec.f n = some (decM n):= by
 unfold impl_Dec.f strconv_Itoa_83.f
 rw [if_pos h0,if_pos h1]
 rfl
theorem show_node {l:List S43} {st:List Int} (h:Tree l st) (hl:l.length <= 150) (hs:∀ x ∈ l,small x) (i:Nat):i < l.length ->
  ∃ t:List UInt8,Ev (fun k => spec_l5Show.f k l (i:Int)) (mk8 t) /\ Ev (fun k => impl_printNode.f k l (i:Int)) (mk8 t) /\ (t.length:Int) <= 6000000 * ((i:Int) - rd st i + 1):= by
 induction i using Nat.strongRecOn with
 | _ i ih =>
  intro hi
  have hlow:= h.low i (by rw [h.len]; exact hi)
  have hst:rd st (i:Int) = st[i]'(by rw [h.len]; exact hi):= rd_get st i (by rw [h.len]; exact hi)
  have d0:0 <= (i:Int):= by omega
  have d1:(i:Int) < (l.length:Int):= by omega
  have hm:l[i] ∈ l:= List.getElem_mem hi
  obtain ⟨s5,s6⟩:= hs _ hm
  obtain ⟨hf,hwk⟩:= h.node i hi
  have hf':= hf
  unfold fieldsM at hf'
  simp only [Bool.and_eq_true,decide_eq_true_eq] at hf'
  obtain ⟨hk,_,_,_,hnum⟩:= hf'
  have sz:∀ b:ByteArray,b.data.toList.length = b.size:= fun b => rfl
  by_cases e1:l[i].f0 = 1
  ·refine ⟨l[i].f5.data.toList,ev_step ?_,ev_step ?_,?_⟩
   ·simp only [spec_l5Show.f,if_pos d0,if_pos d1,rdN_get l i hi,if_pos e1]
    exact ev_const _
   ·have e2:¬ l[i].f0 = 2:= by omega
    simp only [impl_printNode.f,if_pos d0,if_pos d1,rdN_get l i hi,if_neg e2,if_pos e1]
    exact ev_const _
   ·rw [sz,hst]; omega
  ·by_cases e2:l[i].f0 = 2
   ·obtain ⟨v0,v1⟩:= num_int hnum e2
    have w0:-9223372036854775808 <= l[i].f4:= by omega
    have w1:l[i].f4 <= 9223372036854775807:= by omega
    have dl:= decM_size l[i].f4 w0 w1
    have di:impl_Dec.f l[i].f4 = some (decM l[i].f4):= impl_dec l[i].f4 w0 w1
    refine ⟨(decM l[i].f4).data.toList,ev_step ?_,ev_step ?_,?_⟩
    ·simp only [spec_l5Show.f,if_pos d0,if_pos d1,rdN_get l i hi,if_neg e1,if_pos e2]
     exact ev_bind (spec_dec l[i].f4 w0 w1) (ev_const _)
    ·simp only [impl_printNode.f,if_pos d0,if_pos d1,rdN_get l i hi,if_pos e2,di,Option.bind_some]
     exact ev_const _
    ·rw [sz,hst]; omega
   ·by_cases e12:l[i].f0 = 12
    ·refine ⟨[110,105,108],ev_step ?_,ev_step ?_,?_⟩
     ·simp only [spec_l5Show.f,if_pos d0,if_pos d1,rdN_get l i hi,if_neg e1,if_neg e2,if_pos e12]
      exact ev_const _
     ·simp only [impl_printNode.f,if_pos d0,if_pos d1,rdN_get l i hi,if_neg e2,if_neg e1,if_pos e12]
      exact ev_const _
     ·rw [hst]; simp; omega
    ·have h8:l[i].f0 = 8 -> 0 <= l[i].f4 /\ l[i].f4 <= 3:= fun e => num_prim hnum e
     obtain ⟨key,s,x1,x2,y4,k1,k2,k3,k4,k5,k6,k7,k8⟩:= key_form l[i] (by omega) hk.2 e12 h8
     have hkid:= h.kid i hi
     obtain ⟨ts,r1,r2⟩:= kids_rel h hl i hi (fun c hc => ih c hc (by omega)) (kidsM l[i]) hkid
     have hsum:= walk_sum st _ _ _ hwk
     rw [List.map_reverse,sum_rev] at hsum
     rw [hsum] at r2
     have kl:kidsIn s <= (kidsM l[i]).length:= by rw [kidsM_len]; exact k6
     have kl3:(kidsM l[i]).length <= 3:= by rw [kidsM_len]; exact ar_most _
     have nms:∀ n ∈ [l[i].f5.data.toList,l[i].f6.data.toList],n.length <= 1048576:= by
      intro n hn
      simp only [List.mem_cons,List.mem_nil_iff,or_false] at hn
      rcases hn with rfl | rfl
      ·exact s5
      ·exact s6
     have z1:1 + (mk8 key).size <= 9223372036854775807:= by rw [mk8_size]; omega
     have hq:(⟨#[40]⟩:ByteArray) ++ mk8 key = mk8 ([40] ++ key):= mk8_add [40] key
     have fs:= spec_fill l s k7 [] s [] [l[i].f5.data.toList,l[i].f6.data.toList] (kidsM l[i]) ts ([40] ++ key) rfl k5 kl r1 nms kl3 (by simp; omega)
     have fi:= impl_fill l s k7 key k8 s [] [l[i].f5.data.toList,l[i].f6.data.toList] (kidsM l[i]) ts [] rfl k5 kl r1 nms kl3 (by simp) (by simp [tailL]; omega)
     have tl:= tail_len s [l[i].f5.data.toList,l[i].f6.data.toList] ts nms
     refine ⟨[40] ++ (key ++ tailL (fillL s [l[i].f5.data.toList,l[i].f6.data.toList] ts)) ++ [41],ev_step ?_,ev_step ?_,?_⟩
     ·simp only [spec_l5Show.f,if_pos d0,if_pos d1,rdN_get l i hi,if_neg e1,if_neg e2,if_neg e12,k1,k3,Option.bind_some,if_pos z1,hq]
      refine ev_bind (spec_kids l[i]) ?_
      refine ev_eq fs ?_
      simp
     ·simp only [impl_printNode.f,if_pos d0,if_pos d1,rdN_get l i hi,if_neg e2,if_neg e1,if_neg e12]
      refine ev_bind k2 ?_
      simp only [k4,Option.bind_some]
      refine ev_bind (impl_kids l[i]) ?_
      exact fi
     ·rw [hst] at *
      simp only [List.length_append,List.length_cons,List.length_nil]
      omega
theorem start_loop {l:List S43} {st:List Int} (h:Tree l st) (m:Nat):∀ i:Nat,i < m -> i < l.length -> Ev (fun k => impl_startOf.l0 k l i) (rd st i):= by
 induction m with
 | zero => intro i h0; omega
 | succ m ih =>
  intro i h0 hi
  apply ev_step
  have c0:0 <= (i:Int):= by omega
  have c1:(i:Int) < (l.length:Int):= by omega
  simp only [impl_startOf.l0,if_pos c0,if_pos c1,rdN_get l i hi]
  refine ev_bind (impl_ar _) ?_
  by_cases ha:0 < ar l[i].f0
  ·have c2:(ar l[i].f0:Int) > 0:= by omega
   simp only [if_pos c2]
   obtain ⟨g0,g1,g2⟩:= h.first i hi ha
   rw [<- g2]
   obtain ⟨j,hj⟩:∃ j:Nat,l[i].f1 = (j:Int):= ⟨l[i].f1.toNat,by omega⟩
   rw [hj] at g1 ⊢
   exact ih j (by omega) (by omega)
  ·have c2:¬ (ar l[i].f0:Int) > 0:= by omega
   simp only [if_neg c2]
   rw [h.leaf i hi (by omega)]
   exact ev_const _
theorem part_some (l:List S43) (i:Int) (hn:l.length <= 1048576) (hs:∀ x ∈ l,small x):∃ t,Ev (fun k => spec_PrintPart.f k l i) t /\ Ev (fun k => impl_PrintPart.f k l i) t:= by
 have js:= spec_ok l hn hs
 have ji:= impl_ok l hn hs
 have none_:∀ x:Int,x < 0 -> Ev (fun k => impl_StartOf.f k l i) x -> Ev (fun k => impl_PrintPart.f k l i) (⟨#[]⟩:ByteArray):= by
  intro x hx h
  unfold impl_PrintPart.f
  refine ev_bind h ?_
  simp only [if_pos hx]
  exact ev_const _
 cases ho:okM l
 ·rw [ho] at js ji
  refine ⟨⟨#[]⟩,?_,none_ (-1) (by omega) ?_⟩
  ·unfold spec_PrintPart.f
   refine ev_bind js ?_
   simp only [Bool.false_eq_true,if_false]
   exact ev_const _
  ·unfold impl_StartOf.f
   refine ev_bind ji ?_
   simp only [Bool.false_eq_true,if_false]
   exact ev_const _
 ·rw [ho] at js ji
  obtain ⟨n1,n2,st,e1,tr,e2⟩:= ok_tree ho
  have ep:= in_place l i ⟨n1,n2⟩
  by_cases hi:0 <= i /\ i < l.length
  ·rw [decide_eq_true hi] at ep
   obtain ⟨j,rfl⟩:∃ j:Nat,i = (j:Int):= ⟨i.toNat,by omega⟩
   obtain ⟨t,t1,t2,t3⟩:= show_node tr n2 hs j (by omega)
   have hlow:= tr.low j (by rw [tr.len]; omega)
   have hst:= rd_get st j (by rw [tr.len]; omega)
   refine ⟨mk8 t,?_,?_⟩
   ·unfold spec_PrintPart.f
    refine ev_bind js ?_
    simp only [if_true,ep,Option.bind_some]
    exact ev_bind t1 (ev_const _)
   ·unfold impl_PrintPart.f
    have sj:Ev (fun k => impl_StartOf.f k l (j:Int)) (rd st j):= by
     unfold impl_StartOf.f
     refine ev_bind ji ?_
     simp only [if_true,in_same,ep,Option.bind_some]
     exact ev_bind (start_loop tr (j + 1) j (by omega) (by omega)) (ev_const _)
    refine ev_bind sj ?_
    have c:¬ rd st (j:Int) < 0:= by rw [hst]; omega
    simp only [if_neg c]
    exact ev_bind t2 (ev_const _)
  ·rw [decide_eq_false hi] at ep
   refine ⟨⟨#[]⟩,?_,none_ (-1) (by omega) ?_⟩
   ·unfold spec_PrintPart.f
    refine ev_bind js ?_
    simp only [if_true,ep,Option.bind_some,Bool.false_eq_true,if_false]
    exact ev_const _
   ·unfold impl_StartOf.f
    refine ev_bind ji ?_
    simp only [if_true,in_same,ep,Option.bind_some,Bool.false_eq_true,if_false]
    exact ev_const _
theorem FnExactPrintPart:Pure:= by
 intro a i ⟨ha,ga⟩ _
 refine Ev.rounds ?_
 unfold laws_FnExactPrintPart.f
 obtain ⟨r,h1,h2,h3⟩:= sz_nodes a ha (fun x hx => (ga x hx).2.2.2.2.2) 1048576 (by omega) (by omega) 1048577 (by omega)
 refine ev_bind (Ev.of (fun k => laws_szNodeS.mono _ _ k) h1) ?_
 by_cases c:r < 0
 ·simp only [if_pos c]
  exact ev_const _
 ·simp only [if_neg c]
  obtain ⟨la,lb⟩:= h3 (by omega)
  have ln:(a.map nodeOf).length <= 1048576:= by simpa using la
  obtain ⟨t,g1,g2⟩:= part_some (a.map nodeOf) i ln (node_small lb)
  refine ev_bind (ev_nodes a la) (ev_bind g1 (ev_bind (ev_nodes a la) (ev_bind g2 ?_)))
  simp only [if_true]
  refine ev_bind (ev_nodes a la) (ev_bind (ev_same _ ln) ?_)
  simp only [if_true]
  exact ev_const _
end Go.Proofs.YtmilegjmiiccdaaDoor.Pure

