/- PureFnExactUnlex, of the words and walks that the law FnExactUnlex needs; made by this session's program out of printed texts. -/

import Derived.Test.YtlhofeikcaejpaaVEUnlexSay
import Derived.Laws.Strings
import Derived.Laws.BitsLemmas
set_option linter.unusedVariables false
set_option linter.unusedSimpArgs false
namespace Go.Proofs.Ytlhofeikcaejpaa.Pure
open Go.RowKit Go.Proofs.Ytlhofeikcaejpaa.PFnExactUnlex Go.Proofs.YtlhofeikcaejpaaW.PrintWords Go.Proofs.YtlhofeikcaejpaaW.PrintLast Go.Proofs.Ytlhofeikcaejpaa.SayFnExactUnlex
theorem wrap_next (i:Nat) (h:i < 4611686018427387904):wrap64 ((i:Int) + 1) = ((i + 1:Nat):Int):= by unfold wrap64; omega
theorem set_grown {α:Type} {x m:List α} {i:Nat} (hl:x.length = m.length) (h:∀ j,j < i -> x[j]? = m[j]?) (hi:i < m.length) {v:α} (hv:m[i]? = some v):(x.set i v).length = m.length /\ ∀ j,j < i + 1 -> (x.set i v)[j]? = m[j]?:= by
 refine ⟨by rw [List.length_set,hl],fun j hj => ?_⟩
 by_cases e:j = i
 ·subst e
  rw [List.getElem?_set_self (by omega),hv]
 ·rw [List.getElem?_set_ne (by omega)]
  exact h j (by omega)
theorem all_grown {α:Type} {x m:List α} (hl:x.length = m.length) (h:∀ j,j < m.length -> x[j]? = m[j]?):x = m:= by
 apply List.ext_getElem? ; intro j
 by_cases hj:j < m.length
 ·exact h j hj
 ·rw [List.getElem?_eq_none (by omega),List.getElem?_eq_none (by omega)]
theorem ev_step {α:Type} {g:Nat -> Option α} {r:α} (h:Ev (fun k => g (k + 1)) r):Ev g r:= Ev.step (fun _ => rfl) h
theorem ev_bind {α β:Type} {g:Nat -> Option α} {f:Nat -> α -> Option β} {a:α} {r:β} (h:Ev g a) (k:Ev (fun n => f n a) r):Ev (fun n => (g n).bind (f n)) r:= Ev.bind h k
theorem ev_const {α:Type} (r:α):Ev (fun _ => some r) r:= Ev.now r
theorem ev_at {α:Type} {g:Nat -> Option α} {r:α} (n:Nat) (h:∀ k,n <= k -> g k = some r):Ev g r:= ⟨n,h⟩
def mk8 (t:List UInt8):ByteArray:= ⟨t.toArray⟩
theorem mk8_size (t:List UInt8):(mk8 t).size = t.length:= by simp [mk8,ByteArray.size]
theorem mk8_add (a b:List UInt8):mk8 a ++ mk8 b = mk8 (a ++ b):= ByteArray.mk_append_mk a b
abbrev TkU:= S68
theorem rdU_get (xs:List TkU) (i:Nat) (h:i < xs.length):rd_T68 xs (i:Int) = xs[i]:= by
 unfold rd_T68
 simp [List.getD_eq_getElem?_getD,List.getElem?_eq_getElem h]
def sepM (p:Option Int) (k:Int):List UInt8:= match p with
 | none => []
 | some q => if q = 1 then [] else if k = 2 then [] else [32]
def ulM:Option Int -> List TkU -> List UInt8
 | _,[] => []
 | p,t :: r => sepM p t.f0 ++ t.f1.data.toList ++ ulM (some t.f0) r
def usz:List TkU -> Nat
 | [] => 0
 | t :: r => t.f1.size + usz r
theorem usz_drop (L:List TkU) (i:Nat) (h:i < L.length):usz (L.drop i) = L[i].f1.size + usz (L.drop (i + 1)):= by
 rw [List.drop_eq_getElem_cons h]; rfl
theorem tl_len (b:ByteArray):b.data.toList.length = b.size:= by rw [Array.length_toList]; rfl
def prevM (L:List TkU):Nat -> Option Int
 | 0 => none
 | i + 1 => (L[i]?).map (·.f0)
theorem unlex_step (L:List TkU) (hL:L.length <= 1048576) (d:Nat):∀ (i:Nat) (al:List UInt8),i + d = (L.take 4000).length -> al.length + d + usz (L.drop i) <= 3000000 ->
  Ev (fun k => spec_Unlex.l0 k L (mk8 al) (i:Int)) (mk8 (al ++ ulM (prevM L i) ((L.take 4000).drop i))) /\ Ev (fun k => impl_Unlex.l0 k L (mk8 al) L (L.length:Int) (i:Int)) (mk8 (al ++ ulM (prevM L i) ((L.take 4000).drop i))):= by
 induction d with
 | zero =>
  intro i al hi hs
  have e:(L.take 4000).drop i = []:= List.drop_of_length_le (by omega)
  rw [e]
  simp only [ulM,List.append_nil]
  rw [List.length_take] at hi
  refine ⟨ev_step ?_,ev_step ?_⟩
  ·by_cases c:(i:Int) < (L.length:Int)
   ·simp only [spec_Unlex.l0,if_pos c,decide_eq_false (show ¬ (i:Int) < 4000 by omega)]
    apply ev_step
    simp only [spec_Unlex.j1,Bool.false_eq_true,if_false]
    exact ev_const _
   ·simp only [spec_Unlex.l0,if_neg c]
    apply ev_step
    simp only [spec_Unlex.j1,Bool.false_eq_true,if_false]
    exact ev_const _
  ·by_cases c:(i:Int) < (L.length:Int)
   ·have c0:0 <= (i:Int):= Int.natCast_nonneg i
    simp only [impl_Unlex.l0,if_pos c,if_pos c0,if_pos (show (i:Int) >= 4000 by omega)]
    exact ev_const _
   ·simp only [impl_Unlex.l0,if_neg c]
    exact ev_const _
 | succ d ih =>
  intro i al hi hs
  have hT:i < (L.take 4000).length:= by omega
  rw [List.length_take] at hi
  have hiL:i < L.length:= by omega
  have c:(i:Int) < (L.length:Int):= by omega
  have c0:0 <= (i:Int):= Int.natCast_nonneg i
  have c4:¬ (i:Int) >= 4000:= by omega
  have c5:(i:Int) < 4000:= by omega
  have eT:(L.take 4000).drop i = L[i] :: (L.take 4000).drop (i + 1):= by
   rw [List.drop_eq_getElem_cons hT,List.getElem_take]
  have hsz:= usz_drop L i hiL
  have hpn:prevM L (i + 1) = some L[i].f0:= by simp [prevM,List.getElem?_eq_getElem hiL]
  have hb:L[i].f1 = mk8 L[i].f1.data.toList:= rfl
  have hl:= tl_len L[i].f1

  have plain:sepM (prevM L i) L[i].f0 = [] -> (mk8 al).size + L[i].f1.size <= 140737488355328 /\ (Ev (fun k => spec_Unlex.l0 k L (mk8 al ++ L[i].f1) ((i + 1:Nat):Int)) (mk8 (al ++ ulM (prevM L i) ((L.take 4000).drop i))) /\ Ev (fun k => impl_Unlex.l0 k L (mk8 al ++ L[i].f1) L (L.length:Int) ((i + 1:Nat):Int)) (mk8 (al ++ ulM (prevM L i) ((L.take 4000).drop i)))):= by
   intro e
   refine ⟨by rw [mk8_size]; omega,?_⟩
   have:= ih (i + 1) (al ++ L[i].f1.data.toList) (by rw [List.length_take]; omega) (by rw [List.length_append]; omega)
   rw [hpn] at this
   rw [eT,ulM,e,List.nil_append,<- List.append_assoc,hb,mk8_add]
   exact this
  have spaced:sepM (prevM L i) L[i].f0 = [32] -> ((mk8 al).size + 1 <= 140737488355328 /\ (mk8 al ++ (⟨#[32]⟩:ByteArray)).size + L[i].f1.size <= 140737488355328) /\ (Ev (fun k => spec_Unlex.l0 k L ((mk8 al ++ (⟨#[32]⟩:ByteArray)) ++ L[i].f1) ((i + 1:Nat):Int)) (mk8 (al ++ ulM (prevM L i) ((L.take 4000).drop i))) /\ Ev (fun k => impl_Unlex.l0 k L ((mk8 al ++ (⟨#[32]⟩:ByteArray)) ++ L[i].f1) L (L.length:Int) ((i + 1:Nat):Int)) (mk8 (al ++ ulM (prevM L i) ((L.take 4000).drop i)))):= by
   intro e
   refine ⟨⟨by rw [mk8_size]; omega,by rw [ByteArray.size_append,mk8_size,show (⟨#[32]⟩:ByteArray).size = 1 from rfl]; omega⟩,?_⟩
   have:= ih (i + 1) (al ++ [32] ++ L[i].f1.data.toList) (by rw [List.length_take]; omega) (by simp only [List.length_append,List.length_cons,List.length_nil]; omega)
   rw [hpn] at this
   rw [eT,ulM,e,<- List.append_assoc,<- List.append_assoc,hb,show (⟨#[32]⟩:ByteArray) = mk8 [32] from rfl,mk8_add,mk8_add]
   exact this
  cases i with
  | zero =>
   obtain ⟨p0,p1,p2⟩:= plain rfl
   have cz:¬ ((0:Nat):Int) > 0:= by decide
   refine ⟨ev_step ?_,ev_step ?_⟩
   ·simp only [spec_Unlex.l0,if_pos c,decide_eq_true c5]
    apply ev_step
    simp only [spec_Unlex.j1,if_true,if_neg cz,if_pos c0,if_pos c,rdU_get L 0 hiL,if_pos (show (mk8 al).size + L[0].f1.size <= 9223372036854775807 by omega),wrap_next 0 (by omega)]
    exact p1
   ·simp only [impl_Unlex.l0,if_pos c,if_pos c0,if_neg c4,if_neg cz,rdU_get L 0 hiL,if_pos p0,wrap_next 0 (by omega)]
    exact p2
  | succ j =>
   have hj:j < L.length:= by omega
   have cz:((j + 1:Nat):Int) > 0:= by omega
   have w1:wrap64 (((j + 1:Nat):Int) - 1) = (j:Int):= by unfold wrap64; omega
   have cj:0 <= (j:Int):= Int.natCast_nonneg j
   have cjl:(j:Int) < (L.length:Int):= by omega
   have hp:prevM L (j + 1) = some L[j].f0:= by simp [prevM,List.getElem?_eq_getElem hj]
   by_cases k1:L[j].f0 = 1
   ·obtain ⟨p0,p1,p2⟩:= plain (by rw [hp]; simp only [sepM,if_pos k1])
    refine ⟨ev_step ?_,ev_step ?_⟩
    ·simp only [spec_Unlex.l0,if_pos c,decide_eq_true c5]
     apply ev_step
     simp only [spec_Unlex.j1,if_true,if_pos cz,w1,if_pos cj,if_pos cjl,rdU_get L j hj,if_pos k1,if_pos c0,if_pos c,rdU_get L (j + 1) hiL,if_pos (show (mk8 al).size + L[j + 1].f1.size <= 9223372036854775807 by omega),wrap_next (j + 1) (by omega)]
     exact p1
    ·simp only [impl_Unlex.l0,if_pos c,if_pos c0,if_neg c4,if_pos cz,w1,if_pos cj,if_pos cjl,rdU_get L j hj,if_pos k1,rdU_get L (j + 1) hiL,if_pos p0,wrap_next (j + 1) (by omega)]
     exact p2
   ·by_cases k2:L[j + 1].f0 = 2
    ·obtain ⟨p0,p1,p2⟩:= plain (by rw [hp]; simp only [sepM,if_neg k1,if_pos k2])
     refine ⟨ev_step ?_,ev_step ?_⟩
     ·simp only [spec_Unlex.l0,if_pos c,decide_eq_true c5]
      apply ev_step
      simp only [spec_Unlex.j1,if_true,if_pos cz,w1,if_pos cj,if_pos cjl,rdU_get L j hj,if_neg k1,if_pos c0,if_pos c,rdU_get L (j + 1) hiL,if_pos k2,if_pos (show (mk8 al).size + L[j + 1].f1.size <= 9223372036854775807 by omega),wrap_next (j + 1) (by omega)]
      exact p1
     ·simp only [impl_Unlex.l0,if_pos c,if_pos c0,if_neg c4,if_pos cz,w1,if_pos cj,if_pos cjl,rdU_get L j hj,if_neg k1,rdU_get L (j + 1) hiL,if_pos k2,if_pos p0,wrap_next (j + 1) (by omega)]
      exact p2
    ·obtain ⟨⟨p0,p00⟩,p1,p2⟩:= spaced (by rw [hp]; simp only [sepM,if_neg k1,if_neg k2])
     refine ⟨ev_step ?_,ev_step ?_⟩
     ·simp only [spec_Unlex.l0,if_pos c,decide_eq_true c5]
      apply ev_step
      simp only [spec_Unlex.j1,if_true,if_pos cz,w1,if_pos cj,if_pos cjl,rdU_get L j hj,if_neg k1,if_pos c0,if_pos c,rdU_get L (j + 1) hiL,if_neg k2,if_pos (show (mk8 al).size + 1 <= 9223372036854775807 by omega),if_pos (show (mk8 al ++ (⟨#[32]⟩:ByteArray)).size + L[j + 1].f1.size <= 9223372036854775807 by omega),wrap_next (j + 1) (by omega)]
      exact p1
     ·simp only [impl_Unlex.l0,if_pos c,if_pos c0,if_neg c4,if_pos cz,w1,if_pos cj,if_pos cjl,rdU_get L j hj,if_neg k1,rdU_get L (j + 1) hiL,if_neg k2,if_pos p0,if_pos p00,wrap_next (j + 1) (by omega)]
      exact p2
theorem unlex_both (L:List TkU) (hL:L.length <= 1048576) (hs:usz L <= 1048576):Ev (fun k => spec_Unlex.f k L) (mk8 (ulM none (L.take 4000))) /\ Ev (fun k => impl_Unlex.f k L) (mk8 (ulM none (L.take 4000))):= by
 have:= unlex_step L hL (L.take 4000).length 0 [] (by omega) (by
  have:(L.take 4000).length <= 4000:= by rw [List.length_take]; omega
  simp only [List.length_nil,List.drop_zero]; omega)
 rw [List.nil_append,List.drop_zero,show prevM L 0 = none from rfl] at this
 have e:(L.take 4000).take (L.take 4000).length = L.take 4000:= List.take_length
 exact this
def cToken (x:S67):S68:= ⟨x.f0,x.f1,x.f2,x.f3⟩
theorem rdlToken_get (xs:List S67) (i:Nat) (h:i < xs.length):rd_T67 xs (i:Int) = xs[i]:= by
 unfold rd_T67
 simp [List.getD_eq_getElem?_getD,List.getElem?_eq_getElem h]
theorem toToken_loop (l:List S67) (hn:l.length <= 1048576) (d:Nat):∀ k (i:Nat) (x:List S68),i + d = l.length -> x.length = (l.map cToken).length -> (∀ j,j < i -> x[j]? = (l.map cToken)[j]?) -> d < k ->
  laws_toTokenS.l0 k l x i = some (l.map cToken):= by
 induction d with
 | zero =>
  intro k i x hd hx hp hk
  obtain ⟨k,rfl⟩:∃ m,k = m + 1:= ⟨k - 1,by omega⟩
  have c:¬ (i:Int) < (l.length:Int):= by omega
  simp only [laws_toTokenS.l0,if_neg c]
  rw [all_grown hx (fun j hj => hp j (by simp at hj; omega))]
 | succ d ih =>
  intro k i x hd hx hp hk
  obtain ⟨k,rfl⟩:∃ m,k = m + 1:= ⟨k - 1,by omega⟩
  have hxl:x.length = l.length:= by simpa using hx
  have c:(i:Int) < (l.length:Int):= by omega
  have c2:(i:Int) < (x.length:Int):= by omega
  have hi:i < l.length:= by omega
  have c0:0 <= (i:Int):= Int.natCast_nonneg i
  simp only [laws_toTokenS.l0,laws_toToken.f,Option.bind_some,if_pos c,if_pos c0,if_pos c2,rdlToken_get l i hi,wrap_next i (by omega),Int.toNat_natCast]
  obtain ⟨h1,h2⟩:= set_grown (v:= cToken l[i]) hx hp (by simpa using hi) (by simp [List.getElem?_eq_getElem hi])
  exact ih k (i + 1) _ (by omega) h1 h2 (by omega)
theorem toToken_all (l:List S67) (hn:l.length <= 1048576) (k:Nat) (hk:1048576 < k):laws_toTokenS.f k l = some (l.map cToken):= by
 unfold laws_toTokenS.f
 have c1:0 <= (l.length:Int):= Int.natCast_nonneg _
 simp only [Int.toNat_natCast]
 rw [if_pos c1,if_pos (by omega)]
 exact toToken_loop l hn l.length k 0 _ (by omega) (by simp) (fun j hj => by omega) (by omega)
theorem eqToken_loop (l:List S68) (hn:l.length <= 1048576) (d:Nat):∀ k (i:Nat),i + d = l.length -> d < k -> laws_eqTokenS.l0 k l l i = some true:= by
 induction d with
 | zero =>
  intro k i hd hk
  obtain ⟨k,rfl⟩:∃ m,k = m + 1:= ⟨k - 1,by omega⟩
  have c:¬ (i:Int) < (l.length:Int):= by omega
  simp only [laws_eqTokenS.l0,if_neg c]
 | succ d ih =>
  intro k i hd hk
  obtain ⟨k,rfl⟩:∃ m,k = m + 1:= ⟨k - 1,by omega⟩
  have c:(i:Int) < (l.length:Int):= by omega
  have c0:0 <= (i:Int):= Int.natCast_nonneg i
  simp only [laws_eqTokenS.l0,laws_eqToken.f,if_true,Option.bind_some,if_pos c,if_pos c0,wrap_next i (by omega)]
  exact ih k (i + 1) (by omega) (by omega)
theorem eqToken_all (l:List S68) (hn:l.length <= 1048576) (k:Nat) (hk:1048576 < k):laws_eqTokenS.f k l l = some true:= by
 unfold laws_eqTokenS.f
 rw [if_pos rfl]
 exact eqToken_loop l hn l.length k 0 (by omega) (by omega)
def lsz:List S67 -> Nat
 | [] => 0
 | t :: r => t.f1.size + lsz r
theorem usz_map (l:List S67):usz (l.map cToken) = lsz l:= by
 induction l with
 | nil => rfl
 | cons t r ih => simp only [List.map_cons,usz,lsz,ih]; rfl
theorem rdL_at (done:List S67) (r:S67) (rest:List S67):rd_T67 (done ++ r :: rest) (done.length:Int) = r:= by
 rw [rdlToken_get _ _ (by simp)]
 simp
theorem sz_loop:∀ (rest done:List S67) (x:Int),0 <= x -> x <= 1048576 -> done.length + rest.length <= 1048576 -> (∀ y ∈ rest,y.f1.size <= 9223372036854775807) ->
  ∃ r,Ev (fun k => laws_szTokenS.l0 k (done ++ rest) x (done.length:Int)) r /\ (0 <= r -> (lsz rest:Int) <= x):= by
 intro rest
 induction rest with
 | nil =>
  intro done x h0 h1 h2 hy
  have d:¬ (done.length:Int) < ((done ++ ([]:List S67)).length:Int):= by simp
  refine ⟨x,ev_step ?_,fun _ => by simpa [lsz] using h0⟩
  simp only [laws_szTokenS.l0,if_neg d]
  exact ev_const _
 | cons t rest ih =>
  intro done x h0 h1 h2 hy
  simp only [List.length_cons] at h2
  have hz:= hy t List.mem_cons_self
  have d:(done.length:Int) < ((done ++ t :: rest).length:Int):= by simp; omega
  have d0:0 <= (done.length:Int):= by omega
  have w:wrap64 (x - (t.f1.size:Int)) = x - (t.f1.size:Int):= by unfold wrap64; omega
  by_cases c:x - (t.f1.size:Int) < 0
  ·refine ⟨-1,ev_step ?_,fun h => by omega⟩
   simp only [laws_szTokenS.l0,if_pos d,if_pos d0,rdL_at,laws_szToken.f,w,if_pos c,Option.bind_some]
   exact ev_const _
  ·obtain ⟨r,h3,h4⟩:= ih (done ++ [t]) (x - (t.f1.size:Int)) (by omega) (by omega) (by simp; omega) (fun y q => hy y (List.mem_cons_of_mem _ q))
   simp only [List.append_assoc,List.singleton_append,List.length_append,List.length_singleton] at h3
   refine ⟨r,ev_step ?_,fun q => ?_⟩
   ·simp only [laws_szTokenS.l0,if_pos d,if_pos d0,rdL_at,laws_szToken.f,w,if_neg c,Option.bind_some,wrap_next done.length (by omega)]
    exact h3
   ·have:= h4 q
    simp only [lsz]; omega
theorem FnExactUnlex:Pure:= by
 intro l ⟨hl,hg⟩
 refine Ev.rounds ?_
 unfold laws_FnExactUnlex.f laws_szTokenS.f
 have w:wrap64 (1048576 - (l.length:Int)) = 1048576 - (l.length:Int):= by unfold wrap64; omega
 rw [w]
 by_cases c:1048576 - (l.length:Int) < 0
 ·simp only [if_pos c,Option.bind_some]
  exact ev_const _
 ·simp only [if_neg c]
  obtain ⟨r,h1,h2⟩:= sz_loop l [] (1048576 - (l.length:Int)) (by omega) (by omega) (by simp; omega) (fun y q => (hg y q).2.1)
  refine ev_bind h1 ?_
  by_cases z:r < 0
  ·simp only [if_pos z]; exact ev_const _
  ·simp only [if_neg z]
   have hs:= h2 (by omega)
   have hm:(l.map cToken).length <= 1048576:= by simp; omega
   have et:Ev (fun k => laws_toTokenS.f k l) (l.map cToken):= ev_at 1048577 fun k hk => toToken_all l (by omega) k (by omega)
   obtain ⟨u1,u2⟩:= unlex_both (l.map cToken) hm (by rw [usz_map]; omega)
   refine ev_bind et (ev_bind u1 (ev_bind et (ev_bind u2 ?_)))
   simp only [if_true]
   refine ev_bind et (ev_bind (ev_at 1048577 fun k hk => eqToken_all (l.map cToken) hm k (by omega)) ?_)
   exact ev_const _
end Go.Proofs.Ytlhofeikcaejpaa.Pure

