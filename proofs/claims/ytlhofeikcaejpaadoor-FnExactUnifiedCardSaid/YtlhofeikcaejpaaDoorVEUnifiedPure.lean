/- PureFnExactUnified, of the words and walks that the law FnExactUnified needs; made by this session's program out of printed texts. -/

import Derived.Test.YtlhofeikcaejpaaDoorVEUnifiedSay
import Derived.Laws.Strings
import Derived.Laws.BitsLemmas
set_option linter.unusedVariables false
set_option linter.unusedSimpArgs false
set_option linter.unusedSectionVars false
namespace Go.Proofs.YtlhofeikcaejpaaDoor.Pure
open Go.RowKit Go.Proofs.YtlhofeikcaejpaaDoor.PFnExactUnified Go.Proofs.YtlhofeikcaejpaaDoorW.PrintWords Go.Proofs.YtlhofeikcaejpaaDoorW.PrintLast Go.Proofs.YtlhofeikcaejpaaDoor.SayFnExactUnified
theorem wrap_next (i:Nat) (h:i < 4611686018427387904):wrap64 ((i:Int) + 1) = ((i + 1:Nat):Int):= by unfold wrap64; omega
theorem set_grown {α:Type} {x m:List α} {i:Nat} (hl:x.length = m.length) (h:∀ j,j < i -> x[j]? = m[j]?) (hi:i < m.length) {v:α} (hv:m[i]? = some v):(x.set i v).length = m.length /\ ∀ j,j < i + 1 -> (x.set i v)[j]? = m[j]?:= by
 refine ⟨by rw [List.length_set,hl],fun j hj => ?_⟩
 by_cases e:j = i
 ·subst e
  rw [List.getElem?_set_self (by omega),hv]
 ·rw [List.getElem?_set_ne (by omega)]
  exact h j (by omega)
theorem all_grown {α:Type} {x m:List α} (hl:x.length = m.length) (h:∀ j,j < m.length -> x[j]? = m[j]?):x = m:= by
 apply List.ext_getElem? ; intro j
 by_cases hj:j < m.length
 ·exact h j hj
 ·rw [List.getElem?_eq_none (by omega),List.getElem?_eq_none (by omega)]
theorem ev_step {α:Type} {g:Nat -> Option α} {r:α} (h:Ev (fun k => g (k + 1)) r):Ev g r:= Ev.step (fun _ => rfl) h
theorem ev_bind {α β:Type} {g:Nat -> Option α} {f:Nat -> α -> Option β} {a:α} {r:β} (h:Ev g a) (k:Ev (fun n => f n a) r):Ev (fun n => (g n).bind (f n)) r:= Ev.bind h k
theorem ev_const {α:Type} (r:α):Ev (fun _ => some r) r:= Ev.now r
theorem ev_at {α:Type} {g:Nat -> Option α} {r:α} (n:Nat) (h:∀ k,n <= k -> g k = some r):Ev g r:= ⟨n,h⟩
theorem ev_eq {α:Type} {g:Nat -> Option α} {r q:α} (h:Ev g r) (e:r = q):Ev g q:= e ▸ h
def cType (x:S99):S55:= ⟨x.f0,x.f1,x.f2⟩
theorem rdlType_get (xs:List S99) (i:Nat) (h:i < xs.length):rd_T99 xs (i:Int) = xs[i]:= by
 unfold rd_T99
 simp [List.getD_eq_getElem?_getD,List.getElem?_eq_getElem h]
theorem toType_loop (l:List S99) (hn:l.length <= 1048576) (d:Nat):∀ k (i:Nat) (x:List S55),i + d = l.length -> x.length = (l.map cType).length -> (∀ j,j < i -> x[j]? = (l.map cType)[j]?) -> d < k ->
  laws_toTypeS.l0 k l x i = some (l.map cType):= by
 induction d with
 | zero =>
  intro k i x hd hx hp hk
  obtain ⟨k,rfl⟩:∃ m,k = m + 1:= ⟨k - 1,by omega⟩
  have c:¬ (i:Int) < (l.length:Int):= by omega
  simp only [laws_toTypeS.l0,if_neg c]
  rw [all_grown hx (fun j hj => hp j (by simp at hj; omega))]
 | succ d ih =>
  intro k i x hd hx hp hk
  obtain ⟨k,rfl⟩:∃ m,k = m + 1:= ⟨k - 1,by omega⟩
  have hxl:x.length = l.length:= by simpa using hx
  have c:(i:Int) < (l.length:Int):= by omega
  have c2:(i:Int) < (x.length:Int):= by omega
  have hi:i < l.length:= by omega
  have c0:0 <= (i:Int):= Int.natCast_nonneg i
  simp only [laws_toTypeS.l0,laws_toType.f,Option.bind_some,if_pos c,if_pos c0,if_pos c2,rdlType_get l i hi,wrap_next i (by omega),Int.toNat_natCast]
  obtain ⟨h1,h2⟩:= set_grown (v:= cType l[i]) hx hp (by simpa using hi) (by simp [List.getElem?_eq_getElem hi])
  exact ih k (i + 1) _ (by omega) h1 h2 (by omega)
theorem toType_all (l:List S99) (hn:l.length <= 1048576) (k:Nat) (hk:1048576 < k):laws_toTypeS.f k l = some (l.map cType):= by
 unfold laws_toTypeS.f
 have c1:0 <= (l.length:Int):= Int.natCast_nonneg _
 simp only [Int.toNat_natCast]
 rw [if_pos c1,if_pos (by omega)]
 exact toType_loop l hn l.length k 0 _ (by omega) (by simp) (fun j hj => by omega) (by omega)
theorem eqType_loop (l:List S55) (hn:l.length <= 1048576) (d:Nat):∀ k (i:Nat),i + d = l.length -> d < k -> laws_eqTypeS.l0 k l l i = some true:= by
 induction d with
 | zero =>
  intro k i hd hk
  obtain ⟨k,rfl⟩:∃ m,k = m + 1:= ⟨k - 1,by omega⟩
  have c:¬ (i:Int) < (l.length:Int):= by omega
  simp only [laws_eqTypeS.l0,if_neg c]
 | succ d ih =>
  intro k i hd hk
  obtain ⟨k,rfl⟩:∃ m,k = m + 1:= ⟨k - 1,by omega⟩
  have c:(i:Int) < (l.length:Int):= by omega
  have c0:0 <= (i:Int):= Int.natCast_nonneg i
  simp only [laws_eqTypeS.l0,laws_eqType.f,if_true,Option.bind_some,if_pos c,if_pos c0,wrap_next i (by omega)]
  exact ih k (i + 1) (by omega) (by omega)
theorem eqType_all (l:List S55) (hn:l.length <= 1048576) (k:Nat) (hk:1048576 < k):laws_eqTypeS.f k l l = some true:= by
 unfold laws_eqTypeS.f
 rw [if_pos rfl]
 exact eqType_loop l hn l.length k 0 (by omega) (by omega)
theorem sz_types (a:List S99) (ha:a.length <= 9223372036854775807):∃ r,laws_szTypeS.f a 1048576 = some r /\ (0 <= r -> a.length <= 1048576):= by
 unfold laws_szTypeS.f
 have e1:wrap64 (1048576 - (a.length:Int)) = 1048576 - (a.length:Int):= by unfold wrap64; omega
 rw [e1]
 by_cases h1:1048576 - (a.length:Int) < 0
 ·rw [if_pos h1]
  exact ⟨-1,rfl,fun h => by omega⟩
 ·rw [if_neg h1]
  exact ⟨_,rfl,fun h => by omega⟩
theorem ev_toTypes (l:List S99) (hn:l.length <= 1048576):Ev (fun k => laws_toTypeS.f k l) (l.map cType):= ev_at 1048577 fun k hk => toType_all l hn k (by omega)
theorem ev_eqTypes (l:List S55) (hn:l.length <= 1048576):Ev (fun k => laws_eqTypeS.f k l l) true:= ev_at 1048577 fun k hk => eqType_all l hn k (by omega)
theorem rdT_get (xs:List S55) (i:Nat) (h:i < xs.length):rd_T55 xs (i:Int) = xs[i]:= by
 unfold rd_T55
 simp [List.getD_eq_getElem?_getD,List.getElem?_eq_getElem h]
theorem rd_get (xs:List Int) (i:Nat) (h:i < xs.length):rd xs (i:Int) = xs[i]:= by
 unfold rd
 simp [List.getD_eq_getElem?_getD,List.getElem?_eq_getElem h]
theorem in_same (a b c:Int):impl_in.f a b c = spec_l1In.f a b c:= rfl
theorem in_some (a b c:Int):spec_l1In.f a b c = some (decide (a >= b /\ a <= c)):= by
 unfold spec_l1In.f
 by_cases h:a >= b
 ·simp [h]
 ·simp [h]
def kids (e:S55):List Int :=
 if e.f0 = 0 then (if e.f1 >= 0 then [e.f1] else []) else if e.f0 = 2 \/ e.f0 = 3 then [e.f1,e.f2] else if e.f0 = 4 \/ e.f0 = 5 then [e.f1] else []
theorem spec_kids (e:S55):Ev (fun k => spec_l8Kids.f k e.f0 e.f1 e.f2) (kids e):= by
 refine ev_at 1 fun k hk => ?_
 obtain ⟨k,rfl⟩:∃ m,k = m + 1:= ⟨k - 1,by omega⟩
 simp only [spec_l8Kids.f,spec_l8Kids.j0,kids]
 by_cases h0:e.f0 = 0
 ·simp only [if_pos h0]
  split <;> rfl
 ·simp only [if_neg h0]
  by_cases h2:e.f0 = 2
  ·simp [h2]
  ·by_cases h3:e.f0 = 3
   ·simp [h3]
   ·by_cases h4:e.f0 = 4
    ·simp [h4]
    ·by_cases h5:e.f0 = 5
     ·simp [h5]
     ·simp [h2,h3,h4,h5]
theorem impl_kids (e:S55) (h:0 <= e.f0 /\ e.f0 <= 5):Ev (fun k => impl_partsOf.f k e.f0 e.f1 e.f2) (kids e):= by
 refine ev_at 1 fun k hk => ?_
 obtain ⟨k,rfl⟩:∃ m,k = m + 1:= ⟨k - 1,by omega⟩
 simp only [impl_partsOf.f,impl_partsOf.j0,impl_twoParts.f,kids]
 have hc:e.f0 = 0 \/ e.f0 = 1 \/ e.f0 = 2 \/ e.f0 = 3 \/ e.f0 = 4 \/ e.f0 = 5:= by omega
 rcases hc with h | h | h | h | h | h <;> simp [h]
 by_cases h1:e.f1 < 0
 ·simp [h1,show ¬ 0 <= e.f1 by omega]
 ·simp [h1,show 0 <= e.f1 by omega]
def inr (n:Nat) (x:Int):Bool:= decide (0 <= x /\ x < n)
theorem in_len (n:Nat) (hn:n <= 1048576) (x:Int):spec_l1In.f x 0 (wrap64 ((n:Int) - 1)) = some (inr n x):= by
 rw [in_some,show wrap64 ((n:Int) - 1) = (n:Int) - 1 by unfold wrap64; omega]
 unfold inr
 congr 1
 rw [decide_eq_decide]
 omega
def entry (n:Nat) (e:S55):Bool :=
 decide (0 <= e.f0 /\ e.f0 <= 5) && !decide (e.f0 = 0 /\ e.f1 < -1) && !decide (e.f0 = 1 /\ e.f1 ≠ 0) && decide (e.f0 = 2 \/ e.f0 = 3 \/ e.f2 = 0) && (kids e).all (inr n)
theorem spec_in (t:List S55) (hn:t.length <= 1048576) (i:Nat) (ks:List Int) {r:Bool} (h:ks.all (inr t.length) = true -> Ev (fun k => spec_TableOk.l0 k t ((i + 1:Nat):Int)) r) (hi:i < 1048576) (m:Nat):∀ j:Nat,j + m = ks.length -> ks.length <= 2 -> (ks.take j).all (inr t.length) = true ->
  Ev (fun k => spec_TableOk.l1 k t i ks j) ((ks.drop j).all (inr t.length) && r):= by
 induction m with
 | zero =>
  intro j hj h2 ht
  have c:¬ (j:Int) < (ks.length:Int):= by omega
  apply ev_step
  simp only [spec_TableOk.l1,if_neg c,wrap_next i (by omega)]
  rw [List.drop_of_length_le (by omega)]
  rw [List.take_of_length_le (by omega)] at ht
  simpa using h ht
 | succ m ih =>
  intro j hj h2 ht
  have c:(j:Int) < (ks.length:Int):= by omega
  have c0:0 <= (j:Int):= Int.natCast_nonneg j
  apply ev_step
  simp only [spec_TableOk.l1,if_pos c,if_pos c0,wrap_next j (by omega),in_len t.length hn,Option.bind_some]
  rw [List.drop_eq_getElem_cons (show j < ks.length by omega),List.all_cons,rd_get ks j (by omega)]
  cases hb:inr t.length ks[j]
  ·exact ev_const false
  ·simpa using ih (j + 1) (by omega) h2 (by
    rw [List.take_succ_eq_append_getElem (by omega),List.all_append,ht]
    simpa using hb)
theorem kids_two (e:S55):(kids e).length <= 2:= by
 unfold kids
 repeat' split
 all_goals simp
theorem spec_entry (t:List S55) (hn:t.length <= 1048576) (i:Nat) (hi:i < t.length) {r:Bool} (h:entry t.length t[i] = true -> Ev (fun k => spec_TableOk.l0 k t ((i + 1:Nat):Int)) r):Ev (fun k => spec_TableOk.l0 k t i) (entry t.length t[i] && r):= by
 have c:(i:Int) < (t.length:Int):= by omega
 have c0:0 <= (i:Int):= Int.natCast_nonneg i
 have j2:((kids t[i]).all (inr t.length) = true -> Ev (fun k => spec_TableOk.l0 k t ((i + 1:Nat):Int)) r) -> Ev (fun k => spec_TableOk.j2 k t i false) ((kids t[i]).all (inr t.length) && r):= by
  intro h
  apply ev_step
  simp only [spec_TableOk.j2,if_pos c,if_pos c0,Bool.false_eq_true,if_false,rdT_get t i hi]
  exact ev_bind (spec_kids t[i]) (by simpa using spec_in t hn i (kids t[i]) h (by omega) (kids t[i]).length 0 (by omega) (kids_two _) rfl)
 have j2t:Ev (fun k => spec_TableOk.j2 k t i true) false:= by
  apply ev_step
  simp only [spec_TableOk.j2,if_true]
  exact ev_const false
 have j1t:Ev (fun k => spec_TableOk.j1 k t i true) false:= by
  apply ev_step
  simp only [spec_TableOk.j1,if_true]
  exact ev_const false
 have j1:((decide (t[i].f0 = 2 \/ t[i].f0 = 3 \/ t[i].f2 = 0) && (kids t[i]).all (inr t.length)) = true -> Ev (fun k => spec_TableOk.l0 k t ((i + 1:Nat):Int)) r) -> Ev (fun k => spec_TableOk.j1 k t i false) (decide (t[i].f0 = 2 \/ t[i].f0 = 3 \/ t[i].f2 = 0) && (kids t[i]).all (inr t.length) && r):= by
  intro h
  apply ev_step
  simp only [spec_TableOk.j1,if_pos c,if_pos c0,Bool.false_eq_true,if_false,rdT_get t i hi]
  by_cases h2:t[i].f0 = 2
  ·simpa [h2] using j2 (fun hx => h (by simpa [h2] using hx))
  ·by_cases h3:t[i].f0 = 3
   ·simpa [h3] using j2 (fun hx => h (by simpa [h3] using hx))
   ·by_cases hb:t[i].f2 = 0
    ·simpa [h2,h3,hb] using j2 (fun hx => h (by simpa [hb] using hx))
    ·have hb':(t[i].f2 != 0) = true:= by simpa using hb
     simp only [hb',if_neg h2,if_neg h3]
     simpa [h2,h3,hb] using j2t
 apply ev_step
 simp only [spec_TableOk.l0,if_pos c,if_pos c0,rdT_get t i hi,in_some,Option.bind_some]
 unfold entry
 by_cases hk:0 <= t[i].f0 /\ t[i].f0 <= 5
 ·have hk':t[i].f0 >= 0 /\ t[i].f0 <= 5:= hk
  simp only [decide_eq_true hk,decide_eq_true hk',if_true]
  by_cases h0:t[i].f0 = 0
  ·have h1:¬ t[i].f0 = 1:= by omega
   simp only [if_pos h0]
   by_cases ha:t[i].f1 < -1
   ·simp only [if_pos ha]
    simpa [h0,ha] using j1t
   ·simp only [if_neg ha,if_neg h1]
    simpa [h0,ha] using j1 (fun hx => h (by unfold entry; simp only [decide_eq_true hk,hx,Bool.true_and]; simpa [h0,ha] using hx))
  ·by_cases h1:t[i].f0 = 1
   ·simp only [if_neg h0,if_pos h1]
    by_cases ha:t[i].f1 = 0
    ·simpa [h1,ha] using j1 (fun hx => h (by unfold entry; simp only [decide_eq_true hk,hx,Bool.true_and]; simpa [h1,ha] using hx))
    ·have ha':(t[i].f1 != 0) = true:= by simpa using ha
     simp only [ha']
     simpa [h1,ha] using j1t
   ·simp only [if_neg h0,if_neg h1]
    simpa [h0,h1] using j1 (fun hx => h (by unfold entry; simp only [decide_eq_true hk,hx,Bool.true_and]; simpa [h0,h1] using hx))
 ·have hk':¬ (t[i].f0 >= 0 /\ t[i].f0 <= 5):= hk
  simp only [decide_eq_false hk,decide_eq_false hk',Bool.false_eq_true,if_false]
  simpa using j1t
theorem impl_in_all (t:List S55) (hn:t.length <= 1048576) (ks:List Int) (a b c:Int) (m:Nat):∀ j:Nat,j + m = ks.length -> ks.length <= 2 ->
  Ev (fun k => impl_entryOk.l0 k t ks (ks.length:Int) j a b c) ((ks.drop j).all (inr t.length) && decide (b >= 0)):= by
 induction m with
 | zero =>
  intro j hj h2
  have c:¬ (j:Int) < (ks.length:Int):= by omega
  apply ev_step
  simp only [impl_entryOk.l0,if_neg c]
  rw [List.drop_of_length_le (by omega)]
  simpa using ev_const _
 | succ m ih =>
  intro j hj h2
  have c:(j:Int) < (ks.length:Int):= by omega
  have c0:0 <= (j:Int):= Int.natCast_nonneg j
  apply ev_step
  simp only [impl_entryOk.l0,if_pos c,if_pos c0,wrap_next j (by omega),in_same,in_len t.length hn,Option.bind_some]
  rw [List.drop_eq_getElem_cons (show j < ks.length by omega),List.all_cons,rd_get ks j (by omega)]
  cases hb:inr t.length ks[j]
  ·exact ev_const false
  ·simpa using ih (j + 1) (by omega) h2
theorem impl_entry (t:List S55) (hn:t.length <= 1048576) (e:S55):Ev (fun k => impl_entryOk.f k t e.f0 e.f1 e.f2) (entry t.length e):= by
 unfold impl_entryOk.f
 simp only [in_same,in_some,Option.bind_some,impl_twoParts.f]
 have jt:∀ b,b = true -> Ev (fun k => impl_entryOk.j0 k t b e.f0 e.f1 e.f2) false:= by
  rintro b rfl
  apply ev_step
  simp only [impl_entryOk.j0,if_true]
  exact ev_const false
 by_cases hk:0 <= e.f0 /\ e.f0 <= 5
 ·have hk':e.f0 >= 0 /\ e.f0 <= 5:= hk
  simp only [decide_eq_true hk',if_true]
  have j1:Ev (fun k => impl_entryOk.j1 k t e.f0 e.f1 e.f2) ((kids e).all (inr t.length) && decide (e.f1 >= 0)):= by
   apply ev_step
   simp only [impl_entryOk.j1]
   exact ev_bind (impl_kids e hk) (by simpa using impl_in_all t hn (kids e) e.f0 e.f1 e.f2 (kids e).length 0 (by omega) (kids_two _))
  have j0:∀ b,b = false -> (e.f0 = 2 \/ e.f0 = 3 \/ e.f2 = 0) -> Ev (fun k => impl_entryOk.j0 k t b e.f0 e.f1 e.f2) (entry t.length e):= by
   rintro b rfl hb
   apply ev_step
   simp only [impl_entryOk.j0,Bool.false_eq_true,if_false]
   unfold entry
   rw [decide_eq_true hk,decide_eq_true hb]
   by_cases h1:e.f0 = 1
   ·simp only [if_pos h1]
    by_cases ha:e.f1 = 0
    ·simpa [h1,ha,kids] using ev_const true
    ·have ha':(e.f1 == 0) = false:= by simpa using ha
     simp only [ha']
     simpa [h1,ha,kids] using ev_const false
   ·simp only [if_neg h1]
    by_cases h0:e.f0 = 0
    ·simp only [if_pos h0]
     by_cases ha:e.f1 = -1
     ·simp only [if_pos ha]
      simpa [h0,ha,kids] using ev_const true
     ·simp only [if_neg ha]
      refine ev_eq j1 ?_
      by_cases hp:e.f1 >= 0
      ·simp [h0,hp,kids,show ¬ e.f1 < -1 by omega]
      ·simp [h0,hp,kids,show e.f1 < -1 by omega]
    ·simp only [if_neg h0]
     refine ev_eq j1 ?_
     have hc:e.f0 = 2 \/ e.f0 = 3 \/ e.f0 = 4 \/ e.f0 = 5:= by omega
     rcases hc with h | h | h | h <;> simp [h,kids,inr] <;> intros <;> omega
  by_cases h2:e.f0 = 2
  ·simp only [if_pos h2,Option.bind_some,if_true]
   exact j0 _ rfl (Or.inl h2)
  ·simp only [if_neg h2,Option.bind_some]
   by_cases h3:e.f0 = 3
   ·simp only [h3,beq_self_eq_true,if_true]
    have:= j0 _ rfl (Or.inr (Or.inl h3))
    rw [h3] at this
    exact this
   ·have h3':(e.f0 == 3) = false:= beq_eq_false_iff_ne.2 h3
    simp only [h3',Bool.false_eq_true,if_false]
    by_cases hb:e.f2 = 0
    ·exact j0 _ (by simp [hb]) (Or.inr (Or.inr hb))
    ·refine ev_eq (jt _ (by simp [hb])) ?_
     unfold entry
     simp [h2,h3,hb]
 ·have hk':¬ (e.f0 >= 0 /\ e.f0 <= 5):= hk
  simp only [decide_eq_false hk',Bool.false_eq_true,if_false]
  refine ev_eq (jt _ rfl) ?_
  unfold entry
  rw [decide_eq_false hk]
  rfl
theorem rdb_get (g:List Bool) (i:Nat) (h:i < g.length):rdOf false g (i:Int) = g[i]:= by
 unfold rdOf
 simp [List.getD_eq_getElem?_getD,List.getElem?_eq_getElem h]
def ready (g:List Bool) (ks:List Int):Bool:= ks.all fun x => rdOf false g x
def sweep1 (t:List S55) (g:List Bool) (i:Nat):List Bool:= g.set i (rdOf false g i || ready g (kids (rd_T55 t i)))
def sweep (t:List S55):Nat -> Nat -> List Bool -> List Bool
 | 0,_,g => g
 | m + 1,i,g => sweep t m (i + 1) (sweep1 t g i)
def sweeps (t:List S55):Nat -> List Bool -> List Bool
 | 0,g => g
 | m + 1,g => sweeps t m (sweep t t.length 0 g)
theorem sweep1_len (t:List S55) (g:List Bool) (i:Nat):(sweep1 t g i).length = g.length:= by unfold sweep1; rw [List.length_set]
theorem sweep_len (t:List S55) (m:Nat):∀ i g,(sweep t m i g).length = g.length:= by
 induction m with
 | zero => intro i g; rfl
 | succ m ih => intro i g; rw [sweep,ih,sweep1_len]
def entries (t:List S55):Bool:= t.all (entry t.length)
def table (t:List S55):Bool:= decide (t.length <= 40) && (entries t && (sweeps t t.length (List.replicate t.length false)).all id)
theorem spec_ready (t:List S55) (g:List Bool) (p:Int) (i:Nat) (ks:List Int) {r:Bool} (hi:i < g.length) (hg:g.length <= 1048576) (hks:∀ x ∈ ks,0 <= x /\ x < g.length) (m:Nat):∀ (j:Nat) (b:Bool),j + m = ks.length -> ks.length <= 2 ->
  Ev (fun k => spec_TableOk.l3 k t (g.set i (rdOf false g i || (b && ready g (ks.drop j)))) p ((i + 1:Nat):Int)) r -> Ev (fun k => spec_TableOk.l4 k t g p i ks b j) r:= by
 have ci:(i:Int) < (g.length:Int):= by omega
 have ci0:0 <= (i:Int):= Int.natCast_nonneg i
 induction m with
 | zero =>
  intro j b hj h2 h
  have c:¬ (j:Int) < (ks.length:Int):= by omega
  rw [List.drop_of_length_le (by omega)] at h
  apply ev_step
  simp only [spec_TableOk.l4,if_neg c,if_pos ci,if_pos ci0,wrap_next i (by omega),Int.toNat_natCast]
  cases hb:rdOf false g (i:Int)
  ·simpa [hb,ready] using h
  ·simpa [hb,ready] using h
 | succ m ih =>
  intro j b hj h2 h
  have c:(j:Int) < (ks.length:Int):= by omega
  have c0:0 <= (j:Int):= Int.natCast_nonneg j
  have hj':j < ks.length:= by omega
  have hx:= hks ks[j] (List.getElem_mem hj')
  apply ev_step
  simp only [spec_TableOk.l4,if_pos c,if_pos c0,wrap_next j (by omega),rd_get ks j hj',if_pos hx.1,if_pos hx.2]
  rw [List.drop_eq_getElem_cons hj'] at h
  cases b
  ·simp only [Bool.false_eq_true,if_false]
   exact ih (j + 1) false (by omega) h2 (by simpa using h)
  ·simp only [if_true]
   refine ih (j + 1) _ (by omega) h2 ?_
   have e:(true && ready g (ks[j] :: ks.drop (j + 1))) = (rdOf false g ks[j] && ready g (ks.drop (j + 1))):= rfl
   rw [<- e]
   exact h
theorem spec_sweep (t:List S55) (hn:t.length <= 1048576) (he:entries t = true) (p:Nat) (hp:p < 1048576) {r:Bool} (m:Nat):∀ (i:Nat) (g:List Bool),g.length = t.length -> i + m = t.length ->
  Ev (fun k => spec_TableOk.l2 k t (sweep t m i g) ((p + 1:Nat):Int)) r -> Ev (fun k => spec_TableOk.l3 k t g p i) r:= by
 induction m with
 | zero =>
  intro i g hg hi h
  have c:¬ (i:Int) < (t.length:Int):= by omega
  apply ev_step
  simp only [spec_TableOk.l3,if_neg c,wrap_next p (by omega)]
  exact h
 | succ m ih =>
  intro i g hg hi h
  have c:(i:Int) < (t.length:Int):= by omega
  have c0:0 <= (i:Int):= Int.natCast_nonneg i
  have hi':i < t.length:= by omega
  apply ev_step
  simp only [spec_TableOk.l3,if_pos c,if_pos c0]
  refine ev_bind (spec_kids _) ?_
  have hin:∀ x ∈ kids (rd_T55 t (i:Int)),0 <= x /\ x < (g.length:Int):= by
   intro x hx
   rw [rdT_get t i hi'] at hx
   have:= List.all_eq_true.1 he t[i] (List.getElem_mem hi')
   unfold entry at this
   simp only [Bool.and_eq_true] at this
   have:= List.all_eq_true.1 this.2 x hx
   unfold inr at this
   rw [hg]
   exact of_decide_eq_true this
  refine spec_ready t g p i _ (by omega) (by omega) hin (kids (rd_T55 t (i:Int))).length 0 true (by omega) (kids_two _) ?_
  exact ih (i + 1) _ (by rw [List.length_set]; exact hg) (by omega) (by simpa [sweep,sweep1] using h)
theorem spec_last (t:List S55) (hn:t.length <= 1048576) (g:List Bool) (hg:g.length = t.length) (m:Nat):∀ i:Nat,i + m = t.length -> Ev (fun k => spec_TableOk.l5 k t g i) ((g.drop i).all id):= by
 induction m with
 | zero =>
  intro i hi
  have c:¬ (i:Int) < (t.length:Int):= by omega
  apply ev_step
  simp only [spec_TableOk.l5,if_neg c]
  rw [List.drop_of_length_le (by omega)]
  exact ev_const true
 | succ m ih =>
  intro i hi
  have c:(i:Int) < (t.length:Int):= by omega
  have c1:(i:Int) < (g.length:Int):= by omega
  have c0:0 <= (i:Int):= Int.natCast_nonneg i
  apply ev_step
  simp only [spec_TableOk.l5,if_pos c,if_pos c1,if_pos c0,wrap_next i (by omega),rdb_get g i (by omega)]
  rw [List.drop_eq_getElem_cons (show i < g.length by omega),List.all_cons]
  cases hb:g[i]
  ·exact ev_const false
  ·simpa using ih (i + 1) (by omega)
theorem spec_sweeps (t:List S55) (hn:t.length <= 1048576) (he:entries t = true) (m:Nat):∀ (p:Nat) (g:List Bool),g.length = t.length -> p + m = t.length ->
  Ev (fun k => spec_TableOk.l2 k t g p) ((sweeps t m g).all id):= by
 induction m with
 | zero =>
  intro p g hg hp
  have c:¬ (p:Int) < (t.length:Int):= by omega
  apply ev_step
  simp only [spec_TableOk.l2,if_neg c]
  simpa [sweeps] using spec_last t hn g hg t.length 0 (by omega)
 | succ m ih =>
  intro p g hg hp
  have c:(p:Int) < (t.length:Int):= by omega
  apply ev_step
  simp only [spec_TableOk.l2,if_pos c]
  exact spec_sweep t hn he p (by omega) t.length 0 g hg (by omega) (ih (p + 1) _ (by rw [sweep_len]; exact hg) (by omega))
theorem spec_entries (t:List S55) (hn:t.length <= 1048576) {q:Bool} (hq:entries t = true -> Ev (fun k => spec_TableOk.l0 k t (t.length:Int)) q) (m:Nat):∀ i:Nat,i + m = t.length -> (∀ j (hj:j < t.length),j < i -> entry t.length t[j] = true) ->
  Ev (fun k => spec_TableOk.l0 k t i) (entries t && q):= by
 induction m with
 | zero =>
  intro i hi h
  have he:entries t = true:= by
   refine List.all_eq_true.2 fun x hx => ?_
   obtain ⟨j,hj,rfl⟩:= List.getElem_of_mem hx
   exact h j hj (by omega)
  obtain rfl:i = t.length:= by omega
  rw [he]
  exact hq he
 | succ m ih =>
  intro i hi h
  have hi':i < t.length:= by omega
  cases hb:entry t.length t[i]
  ·have he:entries t = false:= by
    refine Bool.eq_false_iff.2 fun h => ?_
    have:= List.all_eq_true.1 h t[i] (List.getElem_mem hi')
    rw [hb] at this
    cases this
   rw [he]
   have:= spec_entry (r:= true) t hn i hi' (fun h => by rw [hb] at h; cases h)
   rw [hb] at this
   simpa using this
  ·have h2:= ih (i + 1) (by omega) (fun j hj hji => by
    by_cases e:j = i
    ·subst e; exact hb
    ·exact h j hj (by omega))
   have:= spec_entry t hn i hi' (fun _ => h2)
   rw [hb] at this
   simpa using this
theorem spec_table (t:List S55) (hn:t.length <= 1048576):Ev (fun k => spec_TableOk.f k t) (table t):= by
 unfold spec_TableOk.f table
 by_cases h:(t.length:Int) > 40
 ·have h2:¬ t.length <= 40:= by omega
  simp only [if_pos h,decide_eq_false h2]
  exact ev_const false
 ·have h2:t.length <= 40:= by omega
  simp only [if_neg h,decide_eq_true h2,Bool.true_and]
  refine spec_entries t hn (fun he => ?_) t.length 0 (by omega) (fun j hj hji => by omega)
  have c:¬ (t.length:Int) < (t.length:Int):= by omega
  have c0:0 <= (t.length:Int):= Int.natCast_nonneg _
  have c1:t.length <= 281474976710656:= by omega
  apply ev_step
  simp only [spec_TableOk.l0,if_neg c,if_pos c0,Int.toNat_natCast,if_pos c1]
  exact spec_sweeps t hn he t.length 0 _ (by simp) (by omega)
theorem impl_ready (t:List S55) (g:List Bool) (p q:Int) (i:Nat) (ks:List Int) {r:Bool} (hi:i < g.length) (hg:g.length <= 1048576) (hks:∀ x ∈ ks,0 <= x /\ x < g.length) (m:Nat):∀ (j:Nat) (b:Bool),j + m = ks.length -> ks.length <= 2 ->
  Ev (fun k => impl_TableOk.l2 k t (g.set i (rdOf false g i || (b && ready g (ks.drop j)))) p q t (t.length:Int) ((i + 1:Nat):Int)) r -> Ev (fun k => impl_TableOk.l3 k t g i b p q t (t.length:Int) i ks (ks.length:Int) j) r:= by
 have ci:(i:Int) < (g.length:Int):= by omega
 have ci0:0 <= (i:Int):= Int.natCast_nonneg i
 induction m with
 | zero =>
  intro j b hj h2 h
  have c:¬ (j:Int) < (ks.length:Int):= by omega
  rw [List.drop_of_length_le (by omega)] at h
  apply ev_step
  simp only [impl_TableOk.l3,if_neg c,if_pos ci,if_pos ci0,wrap_next i (by omega),Int.toNat_natCast]
  cases hb:rdOf false g (i:Int)
  ·simpa [hb,ready] using h
  ·simpa [hb,ready] using h
 | succ m ih =>
  intro j b hj h2 h
  have c:(j:Int) < (ks.length:Int):= by omega
  have c0:0 <= (j:Int):= Int.natCast_nonneg j
  have hj':j < ks.length:= by omega
  have hx:= hks ks[j] (List.getElem_mem hj')
  apply ev_step
  simp only [impl_TableOk.l3,if_pos c,if_pos c0,wrap_next j (by omega),rd_get ks j hj',if_pos hx.1,if_pos hx.2]
  rw [List.drop_eq_getElem_cons hj'] at h
  cases b
  ·simp only [Bool.false_eq_true,if_false]
   exact ih (j + 1) false (by omega) h2 (by simpa using h)
  ·simp only [if_true]
   refine ih (j + 1) _ (by omega) h2 ?_
   have e:(true && ready g (ks[j] :: ks.drop (j + 1))) = (rdOf false g ks[j] && ready g (ks.drop (j + 1))):= rfl
   rw [<- e]
   exact h
theorem entry_kinds (n:Nat) (e:S55) (h:entry n e = true):(0 <= e.f0 /\ e.f0 <= 5) /\ ∀ x ∈ kids e,0 <= x /\ x < n:= by
 unfold entry at h
 simp only [Bool.and_eq_true] at h
 refine ⟨of_decide_eq_true h.1.1.1.1,fun x hx => ?_⟩
 have:= List.all_eq_true.1 h.2 x hx
 exact of_decide_eq_true this
theorem impl_sweep (t:List S55) (hn:t.length <= 1048576) (he:entries t = true) (q:Int) (p:Nat) (hp:p < 1048576) {r:Bool} (m:Nat):∀ (i:Nat) (g:List Bool),g.length = t.length -> i + m = t.length ->
  Ev (fun k => impl_TableOk.l1 k t (sweep t m i g) q ((p + 1:Nat):Int)) r -> Ev (fun k => impl_TableOk.l2 k t g q p t (t.length:Int) i) r:= by
 induction m with
 | zero =>
  intro i g hg hi h
  have c:¬ (i:Int) < (t.length:Int):= by omega
  apply ev_step
  simp only [impl_TableOk.l2,if_neg c,wrap_next p (by omega)]
  exact h
 | succ m ih =>
  intro i g hg hi h
  have c:(i:Int) < (t.length:Int):= by omega
  have c0:0 <= (i:Int):= Int.natCast_nonneg i
  have hi':i < t.length:= by omega
  have hen:= entry_kinds _ _ (List.all_eq_true.1 he t[i] (List.getElem_mem hi'))
  apply ev_step
  simp only [impl_TableOk.l2,if_pos c,if_pos c0]
  refine ev_bind (impl_kids _ (by rw [rdT_get t i hi']; exact hen.1)) ?_
  refine impl_ready t g q p i _ (by omega) (by omega) (by rw [rdT_get t i hi',hg]; exact hen.2) (kids (rd_T55 t (i:Int))).length 0 true (by omega) (kids_two _) ?_
  exact ih (i + 1) _ (by rw [List.length_set]; exact hg) (by omega) (by simpa [sweep,sweep1] using h)
theorem impl_last (g:List Bool) (hn:g.length <= 1048576) (m:Nat):∀ i:Nat,i + m = g.length -> Ev (fun k => impl_TableOk.l4 k g (g.length:Int) i) ((g.drop i).all id):= by
 induction m with
 | zero =>
  intro i hi
  have c:¬ (i:Int) < (g.length:Int):= by omega
  apply ev_step
  simp only [impl_TableOk.l4,if_neg c]
  rw [List.drop_of_length_le (by omega)]
  exact ev_const true
 | succ m ih =>
  intro i hi
  have c:(i:Int) < (g.length:Int):= by omega
  have c0:0 <= (i:Int):= Int.natCast_nonneg i
  apply ev_step
  simp only [impl_TableOk.l4,if_pos c,if_pos c0,wrap_next i (by omega),rdb_get g i (by omega)]
  rw [List.drop_eq_getElem_cons (show i < g.length by omega),List.all_cons]
  cases hb:g[i]
  ·exact ev_const false
  ·simpa using ih (i + 1) (by omega)
theorem impl_sweeps (t:List S55) (hn:t.length <= 1048576) (he:entries t = true) (m:Nat):∀ (p:Nat) (g:List Bool),g.length = t.length -> p + m = t.length ->
  Ev (fun k => impl_TableOk.l1 k t g (t.length:Int) p) ((sweeps t m g).all id):= by
 induction m with
 | zero =>
  intro p g hg hp
  have c:¬ (p:Int) < (t.length:Int):= by omega
  apply ev_step
  simp only [impl_TableOk.l1,if_neg c]
  simpa [sweeps] using impl_last g (by omega) g.length 0 (by omega)
 | succ m ih =>
  intro p g hg hp
  have c:(p:Int) < (t.length:Int):= by omega
  apply ev_step
  simp only [impl_TableOk.l1,if_pos c]
  exact impl_sweep t hn he _ p (by omega) t.length 0 g hg (by omega) (ih (p + 1) _ (by rw [sweep_len]; exact hg) (by omega))
theorem impl_entries (t:List S55) (hn:t.length <= 1048576) {q:Bool} (hq:entries t = true -> Ev (fun k => impl_TableOk.l0 k t t (t.length:Int) (t.length:Int)) q) (m:Nat):∀ i:Nat,i + m = t.length -> (∀ j (hj:j < t.length),j < i -> entry t.length t[j] = true) ->
  Ev (fun k => impl_TableOk.l0 k t t (t.length:Int) i) (entries t && q):= by
 induction m with
 | zero =>
  intro i hi h
  have he:entries t = true:= by
   refine List.all_eq_true.2 fun x hx => ?_
   obtain ⟨j,hj,rfl⟩:= List.getElem_of_mem hx
   exact h j hj (by omega)
  obtain rfl:i = t.length:= by omega
  rw [he]
  exact hq he
 | succ m ih =>
  intro i hi h
  have hi':i < t.length:= by omega
  have c:(i:Int) < (t.length:Int):= by omega
  have c0:0 <= (i:Int):= Int.natCast_nonneg i
  apply ev_step
  simp only [impl_TableOk.l0,if_pos c,if_pos c0,rdT_get t i hi',wrap_next i (by omega)]
  refine ev_bind (impl_entry t hn t[i]) ?_
  cases hb:entry t.length t[i]
  ·have he:entries t = false:= by
    refine Bool.eq_false_iff.2 fun h => ?_
    have:= List.all_eq_true.1 h t[i] (List.getElem_mem hi')
    rw [hb] at this
    cases this
   rw [he]
   exact ev_const false
  ·have h2:= ih (i + 1) (by omega) (fun j hj hji => by
    by_cases e:j = i
    ·subst e; exact hb
    ·exact h j hj (by omega))
   simpa using h2
theorem impl_table (t:List S55) (hn:t.length <= 1048576):Ev (fun k => impl_TableOk.f k t) (table t):= by
 unfold impl_TableOk.f table
 by_cases h:(t.length:Int) > 40
 ·have h2:¬ t.length <= 40:= by omega
  refine ev_eq (impl_entries t hn (q:= false) (fun he => ?_) t.length 0 (by omega) (fun j hj hji => by omega)) (by simp [h2])
  have c:¬ (t.length:Int) < (t.length:Int):= by omega
  apply ev_step
  simp only [impl_TableOk.l0,if_neg c,if_pos h]
  exact ev_const false
 ·have h2:t.length <= 40:= by omega
  simp only [decide_eq_true h2,Bool.true_and]
  refine impl_entries t hn (fun he => ?_) t.length 0 (by omega) (fun j hj hji => by omega)
  have c:¬ (t.length:Int) < (t.length:Int):= by omega
  have c0:0 <= (t.length:Int):= Int.natCast_nonneg _
  have c1:t.length <= 281474976710656:= by omega
  apply ev_step
  simp only [impl_TableOk.l0,if_neg c,if_neg h,if_pos c0,Int.toNat_natCast,if_pos c1]
  exact impl_sweeps t hn he t.length 0 _ (by simp) (by omega)
inductive Ty where
 | free:Nat -> Ty
 | int:Ty
 | two:Int -> Ty -> Ty -> Ty
 | one:Int -> Ty -> Ty
def sz:Ty -> Nat
 | .free _ => 1
 | .int => 1
 | .two _ a b => 1 + sz a + sz b
 | .one _ a => 1 + sz a
theorem sz_pos (T:Ty):1 <= sz T:= by cases T <;> simp [sz] <;> omega
def Bound (e:S55):Prop:= e.f0 = 0 /\ e.f1 >= 0
inductive Root (t:List S55):Nat -> Nat -> Prop where
 | here (i:Nat) (h:i < t.length):¬ Bound t[i] -> Root t i i
 | next (i:Nat) (h:i < t.length) (j:Nat):Bound t[i] -> Root t t[i].f1.toNat j -> Root t i j
inductive Reads (t:List S55):Nat -> Ty -> Prop where
 | free (i:Nat) (h:i < t.length):t[i].f0 = 0 -> t[i].f1 < 0 -> Reads t i (.free i)
 | bound (i:Nat) (h:i < t.length) (T:Ty):Bound t[i] -> Reads t t[i].f1.toNat T -> Reads t i T
 | int (i:Nat) (h:i < t.length):t[i].f0 = 1 -> Reads t i .int
 | two (i:Nat) (h:i < t.length) (a b:Ty):(t[i].f0 = 2 \/ t[i].f0 = 3) -> 0 <= t[i].f1 -> 0 <= t[i].f2 -> Reads t t[i].f1.toNat a -> Reads t t[i].f2.toNat b -> Reads t i (.two t[i].f0 a b)
 | one (i:Nat) (h:i < t.length) (a:Ty):(t[i].f0 = 4 \/ t[i].f0 = 5) -> 0 <= t[i].f1 -> Reads t t[i].f1.toNat a -> Reads t i (.one t[i].f0 a)
theorem reads_root {t:List S55} {i:Nat} {T:Ty} (h:Reads t i T):∃ j,Root t i j /\ Reads t j T /\ ∃ hj:j < t.length,¬ Bound t[j]:= by
 induction h with
 | free i h a b =>
  have hb:¬ Bound t[i]:= fun hb => by unfold Bound at hb; omega
  exact ⟨i,.here i h hb,.free i h a b,h,hb⟩
 | bound i h T hb _ ih =>
  obtain ⟨j,h1,h2,h3⟩:= ih
  exact ⟨j,.next i h j hb h1,h2,h3⟩
 | int i h a =>
  have hb:¬ Bound t[i]:= fun hb => by unfold Bound at hb; omega
  exact ⟨i,.here i h hb,.int i h a,h,hb⟩
 | two i h a b k h1 h2 ha hb _ _ =>
  have hbb:¬ Bound t[i]:= fun hb => by unfold Bound at hb; omega
  exact ⟨i,.here i h hbb,.two i h a b k h1 h2 ha hb,h,hbb⟩
 | one i h a k h1 ha _ =>
  have hb:¬ Bound t[i]:= fun hb => by unfold Bound at hb; omega
  exact ⟨i,.here i h hb,.one i h a k h1 ha,h,hb⟩
def Right (t:List S55) (g:List Bool):Prop:= ∀ j:Nat,rdOf false g (j:Int) = true -> j < t.length -> ∃ T,Reads t j T
theorem reads_of_ready (t:List S55) (g:List Bool) (hr:Right t g) (i:Nat) (hi:i < t.length) (he:entry t.length t[i] = true) (h:ready g (kids t[i]) = true):∃ T,Reads t i T:= by
 have hk:= entry_kinds _ _ he
 have key:∀ x ∈ kids t[i],0 <= x /\ ∃ T,Reads t x.toNat T:= by
  intro x hx
  have h1:= hk.2 x hx
  refine ⟨h1.1,hr x.toNat ?_ (by omega)⟩
  have:= List.all_eq_true.1 h x hx
  rw [show ((x.toNat:Nat):Int) = x by omega]
  exact this
 have hc:t[i].f0 = 0 \/ t[i].f0 = 1 \/ t[i].f0 = 2 \/ t[i].f0 = 3 \/ t[i].f0 = 4 \/ t[i].f0 = 5:= by omega
 unfold kids at key
 rcases hc with h0 | h0 | h0 | h0 | h0 | h0
 ·by_cases h1:t[i].f1 >= 0
  ·obtain ⟨_,T,hT⟩:= key t[i].f1 (by simp [h0,h1])
   exact ⟨T,.bound i hi T ⟨h0,h1⟩ hT⟩
  ·exact ⟨_,.free i hi h0 (by omega)⟩
 ·exact ⟨_,.int i hi h0⟩
 ·obtain ⟨g1,a,ha⟩:= key t[i].f1 (by simp [h0])
  obtain ⟨g2,b,hb⟩:= key t[i].f2 (by simp [h0])
  exact ⟨_,.two i hi a b (Or.inl h0) g1 g2 ha hb⟩
 ·obtain ⟨g1,a,ha⟩:= key t[i].f1 (by simp [h0])
  obtain ⟨g2,b,hb⟩:= key t[i].f2 (by simp [h0])
  exact ⟨_,.two i hi a b (Or.inr h0) g1 g2 ha hb⟩
 ·obtain ⟨g1,a,ha⟩:= key t[i].f1 (by simp [h0])
  exact ⟨_,.one i hi a (Or.inl h0) g1 ha⟩
 ·obtain ⟨g1,a,ha⟩:= key t[i].f1 (by simp [h0])
  exact ⟨_,.one i hi a (Or.inr h0) g1 ha⟩
theorem right_sweep (t:List S55) (he:entries t = true) (m:Nat):∀ i g,i + m = t.length -> Right t g -> Right t (sweep t m i g):= by
 induction m with
 | zero => intro i g _ h; exact h
 | succ m ih =>
  intro i g hi h
  rw [sweep]
  refine ih (i + 1) _ (by omega) ?_
  have hi':i < t.length:= by omega
  intro j hj hjt
  unfold sweep1 at hj
  by_cases e:j = i
  ·subst e
   by_cases hjg:j < g.length
   ·rw [rdb_get _ j (by rw [List.length_set]; exact hjg),List.getElem_set_self,Bool.or_eq_true] at hj
    rcases hj with hj | hj
    ·exact h j hj hjt
    ·rw [rdT_get t j hi'] at hj
     exact reads_of_ready t g h j hi' (List.all_eq_true.1 he t[j] (List.getElem_mem hi')) hj
   ·rw [List.set_eq_of_length_le (by omega)] at hj
    exact h j hj hjt
  ·refine h j ?_ hjt
   unfold rdOf at hj ⊢
   simp only [Int.toNat_natCast,List.getD_eq_getElem?_getD] at hj ⊢
   rw [List.getElem?_set_ne (Ne.symm e)] at hj
   exact hj
theorem right_sweeps (t:List S55) (he:entries t = true) (m:Nat):∀ g,Right t g -> Right t (sweeps t m g):= by
 induction m with
 | zero => intro g h; exact h
 | succ m ih =>
  intro g h
  exact ih _ (right_sweep t he t.length 0 g (by omega) h)
theorem sweeps_len (t:List S55) (m:Nat):∀ g,(sweeps t m g).length = g.length:= by
 induction m with
 | zero => intro g; rfl
 | succ m ih => intro g; rw [sweeps,ih,sweep_len]
theorem table_reads (t:List S55) (h:table t = true) (i:Nat) (hi:i < t.length):∃ T,Reads t i T:= by
 unfold table at h
 simp only [Bool.and_eq_true] at h
 have hr:= right_sweeps t h.2.1 t.length (List.replicate t.length false) (fun j hj _ => by
  exfalso
  unfold rdOf at hj
  simp only [Int.toNat_natCast,List.getD_eq_getElem?_getD] at hj
  rw [List.getElem?_replicate] at hj
  split at hj <;> simp at hj)
 refine hr i ?_ hi
 have hl:i < (sweeps t t.length (List.replicate t.length false)).length:= by rw [sweeps_len]; simpa using hi
 rw [rdb_get _ i hl]
 exact List.all_eq_true.1 h.2.2 _ (List.getElem_mem hl)
theorem find_root (t:List S55) (i j:Nat) (h:Root t i j):Ev (fun k => spec_l8Find.f k t i) (j:Int):= by
 unfold spec_l8Find.f
 induction h with
 | here i h hb =>
  have c:(i:Int) < (t.length:Int):= by omega
  have c0:0 <= (i:Int):= Int.natCast_nonneg i
  apply ev_step
  simp only [spec_l8Find.l0,if_pos c,if_pos c0,rdT_get t i h]
  unfold Bound at hb
  by_cases h0:t[i].f0 = 0
  ·have h1:¬ t[i].f1 >= 0:= fun h => hb ⟨h0,h⟩
   simp only [if_pos h0,if_neg h1]
   exact ev_const _
  ·simp only [if_neg h0]
   exact ev_const _
 | next i h j hb _ ih =>
  have c:(i:Int) < (t.length:Int):= by omega
  have c0:0 <= (i:Int):= Int.natCast_nonneg i
  unfold Bound at hb
  apply ev_step
  simp only [spec_l8Find.l0,if_pos c,if_pos c0,rdT_get t i h,if_pos hb.1,if_pos hb.2]
  rw [show ((t[i].f1.toNat:Nat):Int) = t[i].f1 by omega] at ih
  exact ih
theorem count_root (t:List S55) (i j:Nat) (h:Root t i j) (most:Int) {r:Int} (hr:Ev (fun k => impl_count.j1 k t j most) r):Ev (fun k => impl_count.l0 k t i most) r:= by
 induction h with
 | here i h hb =>
  have c:(i:Int) < (t.length:Int):= by omega
  have c0:0 <= (i:Int):= Int.natCast_nonneg i
  apply ev_step
  simp only [impl_count.l0,if_pos c,if_pos c0,rdT_get t i h]
  unfold Bound at hb
  by_cases h0:t[i].f0 = 0
  ·simp only [if_pos h0]
   have h1:¬ t[i].f1 >= 0:= fun h => hb ⟨h0,h⟩
   simp only [if_neg h1]
   exact hr
  ·simp only [if_neg h0]
   exact hr
 | next i h j hb _ ih =>
  have c:(i:Int) < (t.length:Int):= by omega
  have c0:0 <= (i:Int):= Int.natCast_nonneg i
  unfold Bound at hb
  have ih':= ih hr
  rw [show ((t[i].f1.toNat:Nat):Int) = t[i].f1 by omega] at ih'
  apply ev_step
  simp only [impl_count.l0,if_pos c,if_pos c0,rdT_get t i h,if_pos hb.1,if_pos hb.2]
  exact ih'
def least (n:Nat) (most:Int):Int:= if (n:Int) <= most then n else most + 1
theorem mn_least (n:Nat) (most x:Int) (h:x = n \/ ((n:Int) > most /\ x > most)):mn x (most + 1) = least n most:= by
 unfold mn least
 rcases h with rfl | ⟨h1,h2⟩
 ·split <;> split <;> omega
 ·rw [if_neg (show ¬ (n:Int) <= most by omega)]
  split <;> omega
theorem least_le (n:Nat) (most:Int):least n most <= most + 1:= by unfold least; split <;> omega
theorem least_pos (n:Nat) (most:Int) (h:1 <= n) (h0:0 <= most):1 <= least n most:= by unfold least; split <;> omega
theorem sub_wrap (a b:Int) (h:0 <= a /\ a <= 1000) (h2:0 <= b /\ b <= 1000):wrap64 (a - b) = a - b:= by unfold wrap64; omega
theorem add_wrap (a b:Int) (h:0 <= a /\ a <= 1000) (h2:0 <= b /\ b <= 1000):wrap64 (a + b) = a + b:= by unfold wrap64; omega
theorem wrap_one:wrap64 ((0:Int) + 1) = 1:= by decide +kernel
theorem wrap_two:wrap64 ((1:Int) + 1) = 2:= by decide +kernel
theorem spec_two (t:List S55) (x y:Int) (p q:Nat) (hp:1 <= p) (hq:1 <= q) (hx:∀ most:Int,0 <= most -> most <= 60 -> Ev (fun k => spec_l8Size.f k t x most) (least p most)) (hy:∀ most:Int,0 <= most -> most <= 60 -> Ev (fun k => spec_l8Size.f k t y most) (least q most))
  (most:Int) (h0:0 <= most) (h1:most <= 60):Ev (fun k => spec_l8Size.l0 k t most 1 [x,y] 0) (least (1 + p + q) most):= by
 apply ev_step
 simp only [spec_l8Size.l0,List.length_cons,List.length_nil,Int.reduceLT,if_true,Int.reduceLE]
 by_cases c1:1 <= most
 ·have l1:= least_le p (most - 1)
  have l2:= least_pos p (most - 1) hp (by omega)
  simp only [if_pos c1,sub_wrap most 1 (by omega) (by omega)]
  refine ev_bind (hx (most - 1) (by omega) (by omega)) ?_
  rw [add_wrap 1 _ (by omega) (by omega)]
  apply ev_step
  simp only [spec_l8Size.l0,List.length_cons,List.length_nil,wrap_one]
  by_cases c2:1 + least p (most - 1) <= most
  ·have e:least p (most - 1) = p:= by unfold least at c2 ⊢; split <;> split at c2 <;> omega
   have l3:= least_le q (most - (1 + (p:Int)))
   have l4:= least_pos q (most - (1 + (p:Int))) hq (by omega)
   rw [e] at c2 ⊢
   have cc:(1:Int) < ((0 + 1 + 1:Nat):Int):= by decide
   simp only [if_pos cc,if_pos c2,sub_wrap most (1 + (p:Int)) (by omega) (by omega)]
   refine ev_bind (hy (most - (1 + (p:Int))) (by omega) (by omega)) ?_
   rw [add_wrap (1 + (p:Int)) _ (by omega) (by omega)]
   apply ev_step
   simp only [spec_l8Size.l0,List.length_cons,List.length_nil,wrap_two]
   have cn:¬ (2:Int) < ((0 + 1 + 1:Nat):Int):= by decide
   simp only [if_neg cn,add_wrap most 1 (by omega) (by omega)]
   rw [mn_least (1 + p + q) most _ (by unfold least; split <;> omega)]
   exact ev_const _
  ·have cc:(1:Int) < ((0 + 1 + 1:Nat):Int):= by decide
   simp only [if_pos cc,if_neg c2,add_wrap most 1 (by omega) (by omega)]
   rw [mn_least (1 + p + q) most _ (by unfold least at c2 ⊢; split <;> split at c2 <;> omega)]
   exact ev_const _
 ·simp only [if_neg c1,add_wrap most 1 (by omega) (by omega)]
  rw [mn_least (1 + p + q) most _ (by omega)]
  exact ev_const _
theorem spec_one (t:List S55) (x:Int) (p:Nat) (hp:1 <= p) (hx:∀ most:Int,0 <= most -> most <= 60 -> Ev (fun k => spec_l8Size.f k t x most) (least p most))
  (most:Int) (h0:0 <= most) (h1:most <= 60):Ev (fun k => spec_l8Size.l0 k t most 1 [x] 0) (least (1 + p) most):= by
 apply ev_step
 simp only [spec_l8Size.l0,List.length_cons,List.length_nil]
 have cc:(0:Int) < ((0 + 1:Nat):Int):= by decide
 by_cases c1:1 <= most
 ·have l1:= least_le p (most - 1)
  have l2:= least_pos p (most - 1) hp (by omega)
  simp only [if_pos cc,if_pos c1,Int.le_refl,if_true,sub_wrap most 1 (by omega) (by omega)]
  refine ev_bind (hx (most - 1) (by omega) (by omega)) ?_
  rw [add_wrap 1 _ (by omega) (by omega)]
  apply ev_step
  simp only [spec_l8Size.l0,List.length_cons,List.length_nil,wrap_one]
  have cn:¬ (1:Int) < ((0 + 1:Nat):Int):= by decide
  simp only [if_neg cn,add_wrap most 1 (by omega) (by omega)]
  rw [mn_least (1 + p) most _ (by unfold least; split <;> omega)]
  exact ev_const _
 ·simp only [if_pos cc,if_neg c1,add_wrap most 1 (by omega) (by omega)]
  rw [mn_least (1 + p) most _ (by omega)]
  exact ev_const _
theorem least_one (most:Int) (h:0 <= most):least 1 most = 1:= by unfold least; split <;> omega
theorem spec_size (t:List S55) (T:Ty):∀ i,Reads t i T -> ∀ most:Int,0 <= most -> most <= 60 -> Ev (fun k => spec_l8Size.f k t (i:Int) most) (least (sz T) most):= by
 induction T with
 | free v =>
  intro i hr most h0 h1
  obtain ⟨j,h2,h3,hj,hb⟩:= reads_root hr
  have c:(j:Int) < (t.length:Int):= by omega
  have c0:0 <= (j:Int):= Int.natCast_nonneg j
  apply ev_step
  simp only [spec_l8Size.f]
  refine ev_bind (find_root t i j h2) ?_
  simp only [if_pos c,if_pos c0,rdT_get t j hj]
  cases h3 with
  | free _ _ h4 _ =>
   simp only [if_pos h4,sz,least_one most h0]
   exact ev_const _
  | bound _ _ _ h4 _ => exact absurd h4 hb
 | int =>
  intro i hr most h0 h1
  obtain ⟨j,h2,h3,hj,hb⟩:= reads_root hr
  have c:(j:Int) < (t.length:Int):= by omega
  have c0:0 <= (j:Int):= Int.natCast_nonneg j
  apply ev_step
  simp only [spec_l8Size.f]
  refine ev_bind (find_root t i j h2) ?_
  simp only [if_pos c,if_pos c0,rdT_get t j hj]
  cases h3 with
  | int _ _ h4 =>
   have hn:¬ t[j].f0 = 0:= by omega
   simp only [if_neg hn]
   refine ev_bind (spec_kids t[j]) ?_
   have hk:kids t[j] = []:= by unfold kids; simp [h4]
   rw [hk]
   apply ev_step
   simp only [spec_l8Size.l0,List.length_nil,add_wrap most 1 (by omega) (by omega)]
   have cn:¬ (0:Int) < ((0:Nat):Int):= by decide
   simp only [if_neg cn]
   rw [mn_least 1 most _ (by omega)]
   exact ev_const _
  | bound _ _ _ h4 _ => exact absurd h4 hb
 | two kk a b iha ihb =>
  intro i hr most h0 h1
  obtain ⟨j,h2,h3,hj,hb⟩:= reads_root hr
  have c:(j:Int) < (t.length:Int):= by omega
  have c0:0 <= (j:Int):= Int.natCast_nonneg j
  apply ev_step
  simp only [spec_l8Size.f]
  refine ev_bind (find_root t i j h2) ?_
  simp only [if_pos c,if_pos c0,rdT_get t j hj]
  generalize hK:Ty.two kk a b = K at h3
  cases h3 with
  | two _ _ a' b' h4 g1 g2 ha hbb =>
   injection hK with e1 e2 e3
   subst e2 e3
   have hn:¬ t[j].f0 = 0:= by omega
   simp only [if_neg hn]
   refine ev_bind (spec_kids t[j]) ?_
   have hk:kids t[j] = [t[j].f1,t[j].f2]:= by unfold kids; rcases h4 with h4 | h4 <;> simp [h4]
   rw [hk]
   refine spec_two t _ _ (sz a) (sz b) (sz_pos a) (sz_pos b) ?_ ?_ most h0 h1
   ·have:= iha _ ha
    rw [show ((t[j].f1.toNat:Nat):Int) = t[j].f1 by omega] at this
    exact this
   ·have:= ihb _ hbb
    rw [show ((t[j].f2.toNat:Nat):Int) = t[j].f2 by omega] at this
    exact this
  | bound _ _ _ h4 _ => exact absurd h4 hb
  | free _ _ _ _ => cases hK
  | int _ _ _ => cases hK
  | one _ _ _ _ _ _ => cases hK
 | one kk a iha =>
  intro i hr most h0 h1
  obtain ⟨j,h2,h3,hj,hb⟩:= reads_root hr
  have c:(j:Int) < (t.length:Int):= by omega
  have c0:0 <= (j:Int):= Int.natCast_nonneg j
  apply ev_step
  simp only [spec_l8Size.f]
  refine ev_bind (find_root t i j h2) ?_
  simp only [if_pos c,if_pos c0,rdT_get t j hj]
  generalize hK:Ty.one kk a = K at h3
  cases h3 with
  | one _ _ a' h4 g1 ha =>
   injection hK with e1 e2
   subst e2
   have hn:¬ t[j].f0 = 0:= by omega
   simp only [if_neg hn]
   refine ev_bind (spec_kids t[j]) ?_
   have hk:kids t[j] = [t[j].f1]:= by unfold kids; rcases h4 with h4 | h4 <;> simp [h4]
   rw [hk]
   refine spec_one t _ (sz a) (sz_pos a) ?_ most h0 h1
   have:= iha _ ha
   rw [show ((t[j].f1.toNat:Nat):Int) = t[j].f1 by omega] at this
   exact this
  | bound _ _ _ h4 _ => exact absurd h4 hb
  | free _ _ _ _ => cases hK
  | int _ _ _ => cases hK
  | two _ _ _ _ _ _ _ _ _ => cases hK
theorem impl_two (t:List S55) (x y:Int) (p q:Nat) (hp:1 <= p) (hq:1 <= q) (hx:∀ most:Int,0 <= most -> most <= 60 -> Ev (fun k => impl_count.f k t x most) (least p most)) (hy:∀ most:Int,0 <= most -> most <= 60 -> Ev (fun k => impl_count.f k t y most) (least q most))
  (most:Int) (h0:0 <= most) (h1:most <= 60):Ev (fun k => impl_count.l1 k t most 1 [x,y] (([x,y]:List Int).length:Int) 0) (least (1 + p + q) most):= by
 have k0:(0:Int) < (([x,y]:List Int).length:Int):= by simp
 have k1:(1:Int) < (([x,y]:List Int).length:Int):= by simp
 have k2:¬ (2:Int) < (([x,y]:List Int).length:Int):= by simp
 have z0:(0:Int) <= 0:= by omega
 have z1:(0:Int) <= 1:= by omega
 apply ev_step
 simp only [impl_count.l1,if_pos k0,if_pos z0]
 by_cases c1:1 > most
 ·simp only [if_pos c1]
  refine ev_eq (ev_const 1) ?_
  unfold least
  split <;> omega
 ·have l1:= least_le p (most - 1)
  have l2:= least_pos p (most - 1) hp (by omega)
  simp only [if_neg c1,sub_wrap most 1 (by omega) (by omega)]
  refine ev_bind (hx (most - 1) (by omega) (by omega)) ?_
  rw [add_wrap 1 _ (by omega) (by omega),wrap_one]
  apply ev_step
  simp only [impl_count.l1,if_pos k1,if_pos z1]
  by_cases c2:1 + least p (most - 1) > most
  ·simp only [if_pos c2]
   refine ev_eq (ev_const _) ?_
   unfold least at c2 ⊢
   split <;> split at c2 <;> omega
  ·have e:least p (most - 1) = p:= by unfold least at c2 ⊢; split <;> split at c2 <;> omega
   have l3:= least_le q (most - (1 + (p:Int)))
   have l4:= least_pos q (most - (1 + (p:Int))) hq (by omega)
   rw [e] at c2 ⊢
   simp only [if_neg c2,sub_wrap most (1 + (p:Int)) (by omega) (by omega)]
   refine ev_bind (hy (most - (1 + (p:Int))) (by omega) (by omega)) ?_
   rw [add_wrap (1 + (p:Int)) _ (by omega) (by omega),wrap_two]
   apply ev_step
   simp only [impl_count.l1,if_neg k2]
   refine ev_eq (ev_const _) ?_
   unfold least
   split <;> split <;> omega
theorem impl_one (t:List S55) (x:Int) (p:Nat) (hp:1 <= p) (hx:∀ most:Int,0 <= most -> most <= 60 -> Ev (fun k => impl_count.f k t x most) (least p most))
  (most:Int) (h0:0 <= most) (h1:most <= 60):Ev (fun k => impl_count.l1 k t most 1 [x] (([x]:List Int).length:Int) 0) (least (1 + p) most):= by
 have k0:(0:Int) < (([x]:List Int).length:Int):= by simp
 have k1:¬ (1:Int) < (([x]:List Int).length:Int):= by simp
 have z0:(0:Int) <= 0:= by omega
 apply ev_step
 simp only [impl_count.l1,if_pos k0,if_pos z0]
 by_cases c1:1 > most
 ·simp only [if_pos c1]
  refine ev_eq (ev_const 1) ?_
  unfold least
  split <;> omega
 ·have l1:= least_le p (most - 1)
  have l2:= least_pos p (most - 1) hp (by omega)
  simp only [if_neg c1,sub_wrap most 1 (by omega) (by omega)]
  refine ev_bind (hx (most - 1) (by omega) (by omega)) ?_
  rw [add_wrap 1 _ (by omega) (by omega),wrap_one]
  apply ev_step
  simp only [impl_count.l1,if_neg k1]
  refine ev_eq (ev_const _) ?_
  unfold least
  split <;> split <;> omega
theorem reads_kind {t:List S55} {i:Nat} {T:Ty} (h:Reads t i T) (hi:i < t.length):0 <= t[i].f0 /\ t[i].f0 <= 5:= by
 cases h with
 | free _ _ h4 _ => omega
 | bound _ _ _ h4 _ => unfold Bound at h4; omega
 | int _ _ h4 => omega
 | two _ _ _ _ h4 _ _ _ _ => omega
 | one _ _ _ h4 _ _ => omega
theorem impl_size (t:List S55) (T:Ty):∀ i,Reads t i T -> ∀ most:Int,0 <= most -> most <= 60 -> Ev (fun k => impl_count.f k t (i:Int) most) (least (sz T) most):= by
 have start:∀ (i:Nat) (most:Int) (r:Int),Ev (fun k => impl_count.l0 k t i most) r -> Ev (fun k => impl_count.f k t (i:Int) most) r:= by
  intro i most r h
  apply ev_step
  simp only [impl_count.f]
  exact h
 induction T with
 | free v =>
  intro i hr most h0 h1
  obtain ⟨j,h2,h3,hj,hb⟩:= reads_root hr
  have c:(j:Int) < (t.length:Int):= by omega
  have c0:0 <= (j:Int):= Int.natCast_nonneg j
  refine start i most _ (count_root t i j h2 most ?_)
  have hkind:= reads_kind h3 hj
  apply ev_step
  simp only [impl_count.j1,if_pos c,if_pos c0,rdT_get t j hj]
  refine ev_bind (impl_kids t[j] hkind) ?_
  cases h3 with
  | free _ _ h4 h5 =>
   have hk:kids t[v] = []:= by unfold kids; simp [h4,show ¬ t[v].f1 >= 0 by omega]
   rw [hk]
   apply ev_step
   have k0:¬ (0:Int) < (([]:List Int).length:Int):= by simp
   simp only [impl_count.l1,if_neg k0,sz,least_one most h0]
   exact ev_const _
  | bound _ _ _ h4 _ => exact absurd h4 hb
 | int =>
  intro i hr most h0 h1
  obtain ⟨j,h2,h3,hj,hb⟩:= reads_root hr
  have c:(j:Int) < (t.length:Int):= by omega
  have c0:0 <= (j:Int):= Int.natCast_nonneg j
  refine start i most _ (count_root t i j h2 most ?_)
  have hkind:= reads_kind h3 hj
  apply ev_step
  simp only [impl_count.j1,if_pos c,if_pos c0,rdT_get t j hj]
  refine ev_bind (impl_kids t[j] hkind) ?_
  cases h3 with
  | int _ _ h4 =>
   have hk:kids t[j] = []:= by unfold kids; simp [h4]
   rw [hk]
   apply ev_step
   have k0:¬ (0:Int) < (([]:List Int).length:Int):= by simp
   simp only [impl_count.l1,if_neg k0,sz,least_one most h0]
   exact ev_const _
  | bound _ _ _ h4 _ => exact absurd h4 hb
 | two kk a b iha ihb =>
  intro i hr most h0 h1
  obtain ⟨j,h2,h3,hj,hb⟩:= reads_root hr
  have c:(j:Int) < (t.length:Int):= by omega
  have c0:0 <= (j:Int):= Int.natCast_nonneg j
  refine start i most _ (count_root t i j h2 most ?_)
  have hkind:= reads_kind h3 hj
  apply ev_step
  simp only [impl_count.j1,if_pos c,if_pos c0,rdT_get t j hj]
  refine ev_bind (impl_kids t[j] hkind) ?_
  generalize hK:Ty.two kk a b = K at h3
  cases h3 with
  | two _ _ a' b' h4 g1 g2 ha hbb =>
   injection hK with e1 e2 e3
   subst e2 e3
   have hk:kids t[j] = [t[j].f1,t[j].f2]:= by unfold kids; rcases h4 with h4 | h4 <;> simp [h4]
   rw [hk]
   refine impl_two t _ _ (sz a) (sz b) (sz_pos a) (sz_pos b) ?_ ?_ most h0 h1
   ·have:= iha _ ha
    rw [show ((t[j].f1.toNat:Nat):Int) = t[j].f1 by omega] at this
    exact this
   ·have:= ihb _ hbb
    rw [show ((t[j].f2.toNat:Nat):Int) = t[j].f2 by omega] at this
    exact this
  | bound _ _ _ h4 _ => exact absurd h4 hb
  | free _ _ _ _ => cases hK
  | int _ _ _ => cases hK
  | one _ _ _ _ _ _ => cases hK
 | one kk a iha =>
  intro i hr most h0 h1
  obtain ⟨j,h2,h3,hj,hb⟩:= reads_root hr
  have c:(j:Int) < (t.length:Int):= by omega
  have c0:0 <= (j:Int):= Int.natCast_nonneg j
  refine start i most _ (count_root t i j h2 most ?_)
  have hkind:= reads_kind h3 hj
  apply ev_step
  simp only [impl_count.j1,if_pos c,if_pos c0,rdT_get t j hj]
  refine ev_bind (impl_kids t[j] hkind) ?_
  generalize hK:Ty.one kk a = K at h3
  cases h3 with
  | one _ _ a' h4 g1 ha =>
   injection hK with e1 e2
   subst e2
   have hk:kids t[j] = [t[j].f1]:= by unfold kids; rcases h4 with h4 | h4 <;> simp [h4]
   rw [hk]
   refine impl_one t _ (sz a) (sz_pos a) ?_ most h0 h1
   have:= iha _ ha
   rw [show ((t[j].f1.toNat:Nat):Int) = t[j].f1 by omega] at this
   exact this
  | bound _ _ _ h4 _ => exact absurd h4 hb
  | free _ _ _ _ => cases hK
  | int _ _ _ => cases hK
  | two _ _ _ _ _ _ _ _ _ => cases hK
theorem sizes_both (t:List S55) (hn:t.length <= 1048576) (i:Int):∃ r,Ev (fun k => spec_SizeOf.f k t i) r /\ Ev (fun k => impl_SizeOf.f k t i) r /\
  ((r = 0 /\ ¬ (table t = true /\ 0 <= i /\ i < t.length)) \/ (table t = true /\ 0 <= i /\ i < t.length /\ ∃ T,Reads t i.toNat T /\ r = least (sz T) 60)):= by
 unfold spec_SizeOf.f impl_SizeOf.f
 cases ht:table t
 ·refine ⟨0,ev_bind (spec_table t hn) ?_,ev_bind (impl_table t hn) ?_,Or.inl ⟨rfl,by simp⟩⟩
  ·simp only [ht,Bool.false_eq_true,if_false]
   exact ev_const _
  ·simp only [ht,Bool.false_eq_true,if_false]
   exact ev_const _
 ·by_cases hi:0 <= i /\ i < (t.length:Int)
  ·obtain ⟨T,hT⟩:= table_reads t ht i.toNat (by omega)
   have hii:((i.toNat:Nat):Int) = i:= by omega
   refine ⟨least (sz T) 60,ev_bind (spec_table t hn) ?_,ev_bind (impl_table t hn) ?_,Or.inr ⟨rfl,hi.1,hi.2,T,hT,rfl⟩⟩
   ·simp only [ht,if_true,in_len t.length hn,Option.bind_some,inr,decide_eq_true hi]
    have:= spec_size t T i.toNat hT 60 (by omega) (by omega)
    rw [hii] at this
    exact ev_bind this (ev_const _)
   ·simp only [ht,if_true,in_same,in_len t.length hn,Option.bind_some,inr,decide_eq_true hi,impl_sizeOf.f]
    have:= impl_size t T i.toNat hT 60 (by omega) (by omega)
    rw [hii] at this
    refine ev_bind (ev_bind this (ev_const _)) ?_
    refine ev_eq (ev_const _) ?_
    have:= least_le (sz T) 60
    unfold mn
    split <;> omega
  ·refine ⟨0,ev_bind (spec_table t hn) ?_,ev_bind (impl_table t hn) ?_,Or.inl ⟨rfl,fun h => hi ⟨h.2.1,h.2.2⟩⟩⟩
   ·simp only [ht,if_true,in_len t.length hn,Option.bind_some,inr,decide_eq_false hi,Bool.false_eq_true,if_false]
    exact ev_const _
   ·simp only [ht,if_true,in_same,in_len t.length hn,Option.bind_some,inr,decide_eq_false hi,Bool.false_eq_true,if_false]
    exact ev_const _
theorem digs (l:List UInt8):(⟨l.toArray⟩:ByteArray).size = l.length:= by simp [ByteArray.size]
theorem one_num (d:Nat) (h:d < 10):strOfNums [wrap64 (48 + (d:Int)) % 256] = (⟨[UInt8.ofNat (48 + d)].toArray⟩:ByteArray):= by
 have e:wrap64 (48 + (d:Int)) % 256 = ((48 + d:Nat):Int):= by unfold wrap64; omega
 rw [e]
 unfold strOfNums
 simp only [List.map_cons,List.map_nil]
 rfl
theorem bytes_add (a b:List UInt8):(⟨a.toArray⟩:ByteArray) ++ (⟨b.toArray⟩:ByteArray) = (⟨(a ++ b).toArray⟩:ByteArray):= ByteArray.mk_append_mk a b
theorem dec_step (u:Nat) (h:10 <= u):Lib.decDigits u = Lib.decDigits (u / 10) ++ [UInt8.ofNat (48 + u % 10)]:= by
 rw [Lib.decDigits,dif_neg (by omega)]
theorem dec_last (u:Nat) (h:u < 10):Lib.decDigits u = [UInt8.ofNat (48 + u)]:= by
 rw [Lib.decDigits,dif_pos h]
theorem dec_len (d:Nat):∀ u:Nat,u < 10 ^ d -> (Lib.decDigits u).length <= d + 1:= by
 induction d with
 | zero => intro u h; rw [dec_last u (by simp at h; omega)]; simp
 | succ d ih =>
  intro u h
  by_cases c:u < 10
  ·rw [dec_last u c]; simp
  ·rw [dec_step u (by omega),List.length_append]
   have:= ih (u / 10) (by rw [Nat.pow_succ] at h; omega)
   simp
   omega
def decM (n:Int):ByteArray:= ⟨(Lib.itoa n).toArray⟩
theorem decM_size (n:Int) (h0:-9223372036854775808 <= n) (h1:n <= 9223372036854775807):(decM n).size <= 22:= by
 unfold decM Lib.itoa
 rw [digs]
 have h10:(10:Nat) ^ 20 = 100000000000000000000:= by decide
 split
 ·have:= dec_len 20 n.natAbs (by rw [h10]; omega)
  simp
  omega
 ·have:= dec_len 20 n.toNat (by rw [h10]; omega)
  omega
def place:List Int -> Int -> Nat
 | [],_ => 0
 | x :: xs,v => if x = v then 0 else place xs v + 1
def quo (n:Int):ByteArray:= (⟨#[39]⟩:ByteArray) ++ decM n
def txt:Ty -> List Int -> ByteArray × List Int
 | .free v,ns => (quo (place ns v:Nat),if (v:Int) ∈ ns then ns else ns ++ [(v:Int)])
 | .int,ns => ((⟨#[105,110,116]⟩:ByteArray),ns)
 | .two k a b,ns => (if k = 2 then (((((⟨#[40]⟩:ByteArray) ++ (txt a ns).1) ++ (⟨#[32,45,62,32]⟩:ByteArray)) ++ (txt b (txt a ns).2).1) ++ (⟨#[41]⟩:ByteArray)) else (((((⟨#[40]⟩:ByteArray) ++ (txt a ns).1) ++ (⟨#[32,42,32]⟩:ByteArray)) ++ (txt b (txt a ns).2).1) ++ (⟨#[41]⟩:ByteArray)),(txt b (txt a ns).2).2)
 | .one k a,ns => (if k = 5 then (((⟨#[40,114,101,102,32]⟩:ByteArray) ++ (txt a ns).1) ++ (⟨#[41]⟩:ByteArray)) else (((⟨#[40,108,105,115,116,32]⟩:ByteArray) ++ (txt a ns).1) ++ (⟨#[41]⟩:ByteArray)),(txt a ns).2)
theorem place_le (ns:List Int) (v:Int):place ns v <= ns.length:= by
 induction ns with
 | nil => simp [place]
 | cons x xs ih =>
  simp only [place,List.length_cons]
  split <;> omega
theorem z1:(⟨#[40]⟩:ByteArray).size = 1:= rfl
theorem z2:(⟨#[41]⟩:ByteArray).size = 1:= rfl
theorem z3:(⟨#[39]⟩:ByteArray).size = 1:= rfl
theorem z4:(⟨#[32,45,62,32]⟩:ByteArray).size = 4:= rfl
theorem z5:(⟨#[32,42,32]⟩:ByteArray).size = 3:= rfl
theorem z6:(⟨#[40,114,101,102,32]⟩:ByteArray).size = 5:= rfl
theorem z7:(⟨#[40,108,105,115,116,32]⟩:ByteArray).size = 6:= rfl
theorem z8:(⟨#[105,110,116]⟩:ByteArray).size = 3:= rfl
theorem txt_len (T:Ty):∀ ns,(txt T ns).2.length <= ns.length + sz T:= by
 induction T with
 | free v => intro ns; simp only [txt,sz]; split <;> simp
 | int => intro ns; simp only [txt,sz]; omega
 | two k a b iha ihb =>
  intro ns
  have h1:= iha ns
  have h2:= ihb (txt a ns).2
  simp only [txt,sz]; omega
 | one k a iha =>
  intro ns
  have h1:= iha ns
  simp only [txt,sz]; omega
theorem txt_size (T:Ty):∀ ns,ns.length + sz T <= 1000 -> (txt T ns).1.size <= 32 * sz T:= by
 induction T with
 | free v =>
  intro ns h
  have h1:= place_le ns v
  have h2:= decM_size (place ns v:Nat) (by omega) (by omega)
  simp only [txt,quo,sz,ByteArray.size_append,z3]; omega
 | int => intro ns h; simp only [txt,sz,z8]; omega
 | two k a b iha ihb =>
  intro ns h
  simp only [sz] at h
  have h0:= txt_len a ns
  have h1:= iha ns (by omega)
  have h2:= ihb (txt a ns).2 (by omega)
  simp only [txt,sz]
  split <;> simp only [ByteArray.size_append,z1,z2,z4,z5] <;> omega
 | one k a iha =>
  intro ns h
  simp only [sz] at h
  have h1:= iha ns (by omega)
  simp only [txt,sz]
  split <;> simp only [ByteArray.size_append,z6,z2,z7] <;> omega
def app (θ:Nat -> Ty):Ty -> Ty
 | .free v => θ v
 | .int => .int
 | .two k a b => .two k (app θ a) (app θ b)
 | .one k a => .one k (app θ a)
def occ (v:Nat):Ty -> Bool
 | .free u => decide (u = v)
 | .int => false
 | .two _ a b => occ v a || occ v b
 | .one _ a => occ v a
theorem app_free (T:Ty):app .free T = T:= by
 induction T with
 | free v => rfl
 | int => rfl
 | two k a b iha ihb => simp only [app,iha,ihb]
 | one k a iha => simp only [app,iha]
theorem app_app (θ σ:Nat -> Ty) (T:Ty):app θ (app σ T) = app (fun v => app θ (σ v)) T:= by
 induction T with
 | free v => rfl
 | int => rfl
 | two k a b iha ihb => simp only [app,iha,ihb]
 | one k a iha => simp only [app,iha]
theorem app_ext {θ σ:Nat -> Ty} (h:∀ v,θ v = σ v) (T:Ty):app θ T = app σ T:= by rw [show θ = σ from funext h]
theorem sz_app (θ:Nat -> Ty) (T:Ty):sz T <= sz (app θ T):= by
 induction T with
 | free v => exact sz_pos (θ v)
 | int => exact Nat.le_refl _
 | two k a b iha ihb => simp only [sz,app]; omega
 | one k a iha => simp only [sz,app]; omega
theorem sz_occ (θ:Nat -> Ty) (v:Nat) (T:Ty) (h:occ v T = true):sz (θ v) <= sz (app θ T):= by
 induction T with
 | free u =>
  simp only [occ,decide_eq_true_eq] at h
  subst h
  exact Nat.le_refl _
 | int => cases h
 | two k a b iha ihb =>
  simp only [occ,Bool.or_eq_true] at h
  simp only [app,sz]
  rcases h with h | h
  ·have:= iha h; omega
  ·have:= ihb h; omega
 | one k a iha =>
  simp only [occ] at h
  have:= iha h
  simp only [app,sz]; omega
theorem sz_occ_lt (θ:Nat -> Ty) (v:Nat) (T:Ty) (h:occ v T = true) (hn:¬ T = .free v):sz (θ v) < sz (app θ T):= by
 cases T with
 | free u =>
  simp only [occ,decide_eq_true_eq] at h
  subst h
  exact absurd rfl hn
 | int => cases h
 | two k a b =>
  simp only [occ,Bool.or_eq_true] at h
  simp only [app,sz]
  rcases h with h | h
  ·have:= sz_occ θ v a h; omega
  ·have:= sz_occ θ v b h; omega
 | one k a =>
  simp only [occ] at h
  have:= sz_occ θ v a h
  simp only [app,sz]; omega
def bindS (a:Nat) (B:Ty):Nat -> Ty:= fun v => if v = a then B else .free v
theorem app_bind_none (a:Nat) (B T:Ty) (h:occ a T = false):app (bindS a B) T = T:= by
 induction T with
 | free u =>
  simp only [occ,decide_eq_false_iff_not] at h
  simp only [app,bindS,if_neg h]
 | int => rfl
 | two k x y iha ihb =>
  simp only [occ,Bool.or_eq_false_iff] at h
  simp only [app,iha h.1,ihb h.2]
 | one k x iha =>
  simp only [occ] at h
  simp only [app,iha h]
theorem reads_det {t:List S55} {i:Nat} {T:Ty} (h:Reads t i T):∀ T',Reads t i T' -> T = T':= by
 induction h with
 | free i h h1 h2 =>
  intro T' h'
  cases h' with
  | free => rfl
  | bound _ _ _ hb _ => unfold Bound at hb; omega
  | int _ _ h3 => omega
  | two _ _ _ _ h3 _ _ _ _ => omega
  | one _ _ _ h3 _ _ => omega
 | bound i h T hb _ ih =>
  intro T' h'
  unfold Bound at hb
  cases h' with
  | free _ _ _ h2 => omega
  | bound _ _ _ _ h3 => exact ih _ h3
  | int _ _ h3 => omega
  | two _ _ _ _ h3 _ _ _ _ => omega
  | one _ _ _ h3 _ _ => omega
 | int i h h1 =>
  intro T' h'
  cases h' with
  | free _ _ h3 _ => omega
  | bound _ _ _ hb _ => unfold Bound at hb; omega
  | int => rfl
  | two _ _ _ _ h3 _ _ _ _ => omega
  | one _ _ _ h3 _ _ => omega
 | two i h a b h1 h2 h3 _ _ iha ihb =>
  intro T' h'
  cases h' with
  | free _ _ h3 _ => omega
  | bound _ _ _ hb _ => unfold Bound at hb; omega
  | int _ _ h3 => omega
  | two _ _ a' b' _ _ _ ha hb => rw [iha _ ha,ihb _ hb]
  | one _ _ _ h3 _ _ => omega
 | one i h a h1 h2 _ iha =>
  intro T' h'
  cases h' with
  | free _ _ h3 _ => omega
  | bound _ _ _ hb _ => unfold Bound at hb; omega
  | int _ _ h3 => omega
  | two _ _ _ _ h3 _ _ _ _ => omega
  | one _ _ a' _ _ ha => rw [iha _ ha]
theorem reads_set {t:List S55} {a:Nat} {e:S55} (ha:a < t.length) (hf:t[a].f0 = 0) (hf1:t[a].f1 < 0) {i:Nat} {T:Ty} (h:Reads t i T) (ho:occ a T = false):Reads (t.set a e) i T:= by
 have get:∀ (i:Nat) (h:i < t.length) (h':i < (t.set a e).length),i ≠ a -> (t.set a e)[i] = t[i]:= fun i h h' hne => by rw [List.getElem_set_ne (Ne.symm hne)]
 induction h with
 | free i h h1 h2 =>
  have hne:i ≠ a:= by
   intro e
   subst e
   simp [occ] at ho
  have h':i < (t.set a e).length:= by rw [List.length_set]; exact h
  have hg:= get i h h' hne
  exact .free i h' (by rw [hg]; exact h1) (by rw [hg]; exact h2)
 | bound i h T hb _ ih =>
  have hne:i ≠ a:= by
   intro e
   subst e
   unfold Bound at hb; omega
  have h':i < (t.set a e).length:= by rw [List.length_set]; exact h
  have hg:= get i h h' hne
  exact .bound i h' T (by rw [hg]; exact hb) (by rw [hg]; exact ih ho)
 | int i h h1 =>
  have hne:i ≠ a:= by
   intro e
   subst e
   omega
  have h':i < (t.set a e).length:= by rw [List.length_set]; exact h
  have hg:= get i h h' hne
  exact .int i h' (by rw [hg]; exact h1)
 | two i h x y h1 h2 h3 _ _ iha ihb =>
  have hne:i ≠ a:= by
   intro e
   subst e
   omega
  have h':i < (t.set a e).length:= by rw [List.length_set]; exact h
  have hg:= get i h h' hne
  simp only [occ,Bool.or_eq_false_iff] at ho
  have:= Reads.two (t:= t.set a e) i h' x y (by rw [hg]; exact h1) (by rw [hg]; exact h2) (by rw [hg]; exact h3) (by rw [hg]; exact iha ho.1) (by rw [hg]; exact ihb ho.2)
  rw [hg] at this
  exact this
 | one i h x h1 h2 _ iha =>
  have hne:i ≠ a:= by
   intro e
   subst e
   omega
  have h':i < (t.set a e).length:= by rw [List.length_set]; exact h
  have hg:= get i h h' hne
  simp only [occ] at ho
  have:= Reads.one (t:= t.set a e) i h' x (by rw [hg]; exact h1) (by rw [hg]; exact h2) (by rw [hg]; exact iha ho)
  rw [hg] at this
  exact this
theorem reads_bind {t:List S55} {a b:Nat} {B:Ty} {x:Int} (ha:a < t.length) (hf:t[a].f0 = 0) (hf1:t[a].f1 < 0) (hB:Reads t b B) (ho:occ a B = false) {i:Nat} {T:Ty} (h:Reads t i T):Reads (t.set a ⟨0,(b:Int),x⟩) i (app (bindS a B) T):= by
 have get:∀ (i:Nat) (h:i < t.length) (h':i < (t.set a ⟨0,(b:Int),x⟩).length),i ≠ a -> (t.set a ⟨0,(b:Int),x⟩)[i] = t[i]:= fun i h h' hne => by rw [List.getElem_set_ne (Ne.symm hne)]
 induction h with
 | free i h h1 h2 =>
  have h':i < (t.set a ⟨0,(b:Int),x⟩).length:= by rw [List.length_set]; exact h
  by_cases e:i = a
  ·subst e
   have hg:(t.set i ⟨0,(b:Int),x⟩)[i] = ⟨0,(b:Int),x⟩:= by rw [List.getElem_set_self]
   simp only [app,bindS,if_true]
   refine .bound i h' B ?_ ?_
   ·rw [hg]; exact ⟨rfl,Int.natCast_nonneg b⟩
   ·rw [hg]
    simp only [Int.toNat_natCast]
    exact reads_set ha hf hf1 hB ho
  ·have hg:= get i h h' e
   simp only [app,bindS,if_neg e]
   exact .free i h' (by rw [hg]; exact h1) (by rw [hg]; exact h2)
 | bound i h T hb _ ih =>
  have hne:i ≠ a:= by
   intro e
   subst e
   unfold Bound at hb; omega
  have h':i < (t.set a ⟨0,(b:Int),x⟩).length:= by rw [List.length_set]; exact h
  have hg:= get i h h' hne
  exact .bound i h' _ (by rw [hg]; exact hb) (by rw [hg]; exact ih)
 | int i h h1 =>
  have hne:i ≠ a:= by
   intro e
   subst e
   omega
  have h':i < (t.set a ⟨0,(b:Int),x⟩).length:= by rw [List.length_set]; exact h
  have hg:= get i h h' hne
  exact .int i h' (by rw [hg]; exact h1)
 | two i h y z h1 h2 h3 _ _ iha ihb =>
  have hne:i ≠ a:= by
   intro e
   subst e
   omega
  have h':i < (t.set a ⟨0,(b:Int),x⟩).length:= by rw [List.length_set]; exact h
  have hg:= get i h h' hne
  have:= Reads.two (t:= t.set a ⟨0,(b:Int),x⟩) i h' _ _ (by rw [hg]; exact h1) (by rw [hg]; exact h2) (by rw [hg]; exact h3) (by rw [hg]; exact iha) (by rw [hg]; exact ihb)
  rw [hg] at this
  exact this
 | one i h y h1 h2 _ iha =>
  have hne:i ≠ a:= by
   intro e
   subst e
   omega
  have h':i < (t.set a ⟨0,(b:Int),x⟩).length:= by rw [List.length_set]; exact h
  have hg:= get i h h' hne
  have:= Reads.one (t:= t.set a ⟨0,(b:Int),x⟩) i h' _ (by rw [hg]; exact h1) (by rw [hg]; exact h2) (by rw [hg]; exact iha)
  rw [hg] at this
  exact this
def isFree (e:S55):Bool:= decide (e.f0 = 0 /\ e.f1 < 0)
def nfree (t:List S55):Nat:= (t.filter isFree).length
theorem nfree_set (t:List S55):∀ (a:Nat) (ha:a < t.length) (e:S55),isFree t[a] = true -> isFree e = false -> nfree (t.set a e) < nfree t:= by
 induction t with
 | nil => intro a ha; exact absurd ha (by simp)
 | cons x xs ih =>
  intro a ha e h1 h2
  cases a with
  | zero =>
   simp only [List.getElem_cons_zero] at h1
   simp [nfree,List.set_cons_zero,List.filter_cons,h1,h2]
  | succ a =>
   simp only [List.getElem_cons_succ] at h1
   have:= ih a (by simpa using ha) e h1 h2
   unfold nfree at this ⊢
   rw [List.set_cons_succ,List.filter_cons,List.filter_cons]
   split <;> simp <;> omega
structure Top (lim:Bool) (t:List S55) (a b ra rb:Nat) (A B:Ty):Prop where
 r1:Root t a ra
 r2:Root t b rb
 ne:ra ≠ rb
 ha:ra < t.length
 hb:rb < t.length
 h1:Reads t ra A
 h2:Reads t rb B
 b1:¬ Bound t[ra]
 b2:¬ Bound t[rb]
 fit:lim = true -> sz A <= 60 /\ sz B <= 60
inductive Uni (lim:Bool):List S55 -> Nat -> Nat -> Bool -> List S55 -> Prop where
 | eq {t:List S55} {a b r:Nat}:Root t a r -> Root t b r -> Uni lim t a b true t
 | big {t:List S55} {a b ra rb:Nat} {A B:Ty}:lim = true -> Root t a ra -> Root t b rb -> ra ≠ rb -> Reads t ra A -> Reads t rb B -> (60 < sz A \/ 60 < sz B) -> Uni lim t a b false t
 | occ {t:List S55} {a b ra rb:Nat} {A B:Ty} (h:Top lim t a b ra rb A B):(t[ra]'h.ha).f0 = 0 -> occ ra B = true -> Uni lim t a b false t
 | bind {t:List S55} {a b ra rb:Nat} {A B:Ty} (h:Top lim t a b ra rb A B):(t[ra]'h.ha).f0 = 0 -> occ ra B = false -> Uni lim t a b true (t.set ra ⟨0,(rb:Int),(t[ra]'h.ha).f2⟩)
 | swap {t t':List S55} {a b ra rb:Nat} {A B:Ty} {r:Bool} (h:Top lim t a b ra rb A B):¬ (t[ra]'h.ha).f0 = 0 -> (t[rb]'h.hb).f0 = 0 -> Uni lim t rb ra r t' -> Uni lim t a b r t'
 | kind {t:List S55} {a b ra rb:Nat} {A B:Ty} (h:Top lim t a b ra rb A B):¬ (t[ra]'h.ha).f0 = 0 -> ¬ (t[rb]'h.hb).f0 = 0 -> ¬ (t[ra]'h.ha).f0 = (t[rb]'h.hb).f0 -> Uni lim t a b false t
 | int {t:List S55} {a b ra rb:Nat} {A B:Ty} (h:Top lim t a b ra rb A B):(t[ra]'h.ha).f0 = 1 -> (t[rb]'h.hb).f0 = 1 -> Uni lim t a b true t
 | one {t t':List S55} {a b ra rb:Nat} {A B:Ty} {r:Bool} (h:Top lim t a b ra rb A B):((t[ra]'h.ha).f0 = 4 \/ (t[ra]'h.ha).f0 = 5) -> (t[rb]'h.hb).f0 = (t[ra]'h.ha).f0 -> 0 <= (t[ra]'h.ha).f1 -> 0 <= (t[rb]'h.hb).f1 -> Uni lim t (t[ra]'h.ha).f1.toNat (t[rb]'h.hb).f1.toNat r t' -> Uni lim t a b r t'
 | no {t t':List S55} {a b ra rb:Nat} {A B:Ty} (h:Top lim t a b ra rb A B):((t[ra]'h.ha).f0 = 2 \/ (t[ra]'h.ha).f0 = 3) -> (t[rb]'h.hb).f0 = (t[ra]'h.ha).f0 -> 0 <= (t[ra]'h.ha).f1 -> 0 <= (t[rb]'h.hb).f1 -> Uni lim t (t[ra]'h.ha).f1.toNat (t[rb]'h.hb).f1.toNat false t' -> Uni lim t a b false t'
 | two {t t1 t':List S55} {a b ra rb:Nat} {A B:Ty} {r:Bool} (h:Top lim t a b ra rb A B):((t[ra]'h.ha).f0 = 2 \/ (t[ra]'h.ha).f0 = 3) -> (t[rb]'h.hb).f0 = (t[ra]'h.ha).f0 -> 0 <= (t[ra]'h.ha).f1 -> 0 <= (t[rb]'h.hb).f1 -> 0 <= (t[ra]'h.ha).f2 -> 0 <= (t[rb]'h.hb).f2 -> Uni lim t (t[ra]'h.ha).f1.toNat (t[rb]'h.hb).f1.toNat true t1 -> Uni lim t1 (t[ra]'h.ha).f2.toNat (t[rb]'h.hb).f2.toNat r t' -> Uni lim t a b r t'
def Out (lim:Bool) (t:List S55) (A B:Ty) (r:Bool) (t':List S55):Prop:= ∃ σ:Nat -> Ty,(∀ i T,Reads t i T -> Reads t' i (app σ T)) /\ (t' = t \/ nfree t' < nfree t) /\ (r = true -> app σ A = app σ B) /\ ∀ θ,app θ A = app θ B -> (r = true /\ ∀ v,app θ (σ v) = θ v) \/ (lim = true /\ 60 < sz (app θ A))
theorem out_none {lim:Bool} {t:List S55} {A B:Ty} (h:∀ θ,app θ A = app θ B -> lim = true /\ 60 < sz (app θ A)):Out lim t A B false t :=
 ⟨.free,fun i T hT => by rw [app_free]; exact hT,.inl rfl,(fun e => by cases e),fun θ e => .inr (h θ e)⟩
theorem out_eq {lim:Bool} {t:List S55} {A:Ty}:Out lim t A A true t :=
 ⟨.free,fun i T hT => by rw [app_free]; exact hT,.inl rfl,fun _ => rfl,fun θ e => .inl ⟨rfl,fun v => rfl⟩⟩
theorem out_sym {lim:Bool} {t t':List S55} {A B:Ty} {r:Bool} (h:Out lim t A B r t'):Out lim t B A r t':= by
 obtain ⟨σ,h1,h2,h3,h4⟩:= h
 refine ⟨σ,h1,h2,fun e => (h3 e).symm,fun θ e => ?_⟩
 rcases h4 θ e.symm with h | ⟨h,g⟩
 ·exact .inl h
 ·exact .inr ⟨h,by rw [e]; exact g⟩
theorem out_bind {lim:Bool} {t:List S55} {a b:Nat} {B:Ty} (ha:a < t.length) (hf:t[a].f0 = 0) (hf1:t[a].f1 < 0) (hB:Reads t b B) (ho:occ a B = false) (x:Int):Out lim t (.free a) B true (t.set a ⟨0,(b:Int),x⟩):= by
 refine ⟨bindS a B,fun i T hT => reads_bind ha hf hf1 hB ho hT,.inr ?_,fun _ => ?_,fun θ e => .inl ⟨rfl,fun v => ?_⟩⟩
 ·refine nfree_set t a ha _ (by unfold isFree; exact decide_eq_true ⟨hf,hf1⟩) ?_
  unfold isFree
  exact decide_eq_false (fun h => by have:= h.2; have:= Int.natCast_nonneg b; simp only at *; omega)
 ·rw [app_bind_none a B B ho]
  simp only [app,bindS,if_true]
 ·unfold bindS
  by_cases h:v = a
  ·subst h
   rw [if_pos rfl]
   exact e.symm
  ·rw [if_neg h]
   rfl
theorem out_one {lim:Bool} {t t':List S55} {A B:Ty} {r:Bool} (k:Int) (h:Out lim t A B r t'):Out lim t (.one k A) (.one k B) r t':= by
 obtain ⟨σ,h1,h2,h3,h4⟩:= h
 refine ⟨σ,h1,h2,fun e => by simp only [app,h3 e],fun θ e => ?_⟩
 simp only [app,Ty.one.injEq,true_and] at e
 rcases h4 θ e with h | ⟨h,g⟩
 ·exact .inl h
 ·exact .inr ⟨h,by simp only [app,sz]; omega⟩
theorem out_no {lim:Bool} {t t':List S55} {A B A2 B2:Ty} (k:Int) (h:Out lim t A B false t'):Out lim t (.two k A A2) (.two k B B2) false t':= by
 obtain ⟨σ,h1,h2,h3,h4⟩:= h
 refine ⟨σ,h1,h2,(fun e => by cases e),fun θ e => ?_⟩
 simp only [app,Ty.two.injEq,true_and] at e
 rcases h4 θ e.1 with ⟨h,_⟩ | ⟨h,g⟩
 ·cases h
 ·exact .inr ⟨h,by simp only [app,sz]; omega⟩
theorem out_two {lim:Bool} {t t1 t':List S55} {A B A2 B2:Ty} {r:Bool} (k:Int) {σ:Nat -> Ty} (h1:∀ i T,Reads t i T -> Reads t1 i (app σ T)) (h2:t1 = t \/ nfree t1 < nfree t) (h3:app σ A = app σ B) (h4:∀ θ,app θ A = app θ B -> (True /\ ∀ v,app θ (σ v) = θ v) \/ (lim = true /\ 60 < sz (app θ A)))
  (g:Out lim t1 (app σ A2) (app σ B2) r t'):Out lim t (.two k A A2) (.two k B B2) r t':= by
 obtain ⟨τ,g1,g2,g3,g4⟩:= g
 have comp:∀ T,app τ (app σ T) = app (fun v => app τ (σ v)) T:= fun T => app_app τ σ T
 refine ⟨fun v => app τ (σ v),fun i T hT => ?_,?_,fun e => ?_,fun θ e => ?_⟩
 ·rw [<- comp]; exact g1 i _ (h1 i T hT)
 ·rcases h2 with rfl | h2
  ·exact g2
  ·rcases g2 with rfl | g2
   ·exact .inr h2
   ·exact .inr (by omega)
 ·simp only [app]
  rw [<- comp,<- comp,<- comp,<- comp,h3,g3 e]
 ·simp only [app,Ty.two.injEq,true_and] at e
  rcases h4 θ e.1 with ⟨_,hv⟩ | ⟨hl,hs⟩
  ·have back:∀ T,app θ (app σ T) = app θ T:= fun T => by rw [app_app]; exact app_ext hv T
   have e2:app θ (app σ A2) = app θ (app σ B2):= by rw [back,back]; exact e.2
   rcases g4 θ e2 with ⟨hr,hw⟩ | ⟨hl,hs⟩
   ·refine .inl ⟨hr,fun v => ?_⟩
    rw [app_app,app_ext hw]
    exact hv v
   ·rw [back] at hs
    exact .inr ⟨hl,by simp only [app,sz]; omega⟩
  ·exact .inr ⟨hl,by simp only [app,sz]; omega⟩
theorem root_free {t:List S55} {i:Nat} {v:Nat} (hi:i < t.length) (hb:¬ Bound t[i]) (h:Reads t i (.free v)):v = i /\ t[i].f0 = 0 /\ t[i].f1 < 0:= by
 cases h with
 | free _ _ h1 h2 => exact ⟨rfl,h1,h2⟩
 | bound _ _ _ h1 _ => exact absurd h1 hb
theorem root_int {t:List S55} {i:Nat} (hi:i < t.length) (hb:¬ Bound t[i]) (h:Reads t i .int):t[i].f0 = 1:= by
 cases h with
 | int _ _ h1 => exact h1
 | bound _ _ _ h1 _ => exact absurd h1 hb
theorem root_two {t:List S55} {i:Nat} {k:Int} {a b:Ty} (hi:i < t.length) (hb:¬ Bound t[i]) (h:Reads t i (.two k a b)):t[i].f0 = k /\ (k = 2 \/ k = 3) /\ 0 <= t[i].f1 /\ 0 <= t[i].f2 /\ Reads t t[i].f1.toNat a /\ Reads t t[i].f2.toNat b:= by
 generalize hK:Ty.two k a b = K at h
 cases h with
 | two _ _ a' b' h4 g1 g2 ha hbb =>
  injection hK with e1 e2 e3
  subst e1 e2 e3
  exact ⟨rfl,h4,g1,g2,ha,hbb⟩
 | bound _ _ _ h4 _ => exact absurd h4 hb
 | free _ _ _ _ => cases hK
 | int _ _ _ => cases hK
 | one _ _ _ _ _ _ => cases hK
theorem root_one {t:List S55} {i:Nat} {k:Int} {a:Ty} (hi:i < t.length) (hb:¬ Bound t[i]) (h:Reads t i (.one k a)):t[i].f0 = k /\ (k = 4 \/ k = 5) /\ 0 <= t[i].f1 /\ Reads t t[i].f1.toNat a:= by
 generalize hK:Ty.one k a = K at h
 cases h with
 | one _ _ a' h4 g1 ha =>
  injection hK with e1 e2
  subst e1 e2
  exact ⟨rfl,h4,g1,ha⟩
 | bound _ _ _ h4 _ => exact absurd h4 hb
 | free _ _ _ _ => cases hK
 | int _ _ _ => cases hK
 | two _ _ _ _ _ _ _ _ _ => cases hK
theorem uni_free {lim:Bool} {t:List S55} {a b ra rb:Nat} {v:Nat} {B:Ty} (h:Top lim t a b ra rb (.free v) B):∃ r t',Uni lim t a b r t' /\ Out lim t (.free v) B r t':= by
 obtain ⟨rfl,f0,f1⟩:= root_free h.ha h.b1 h.h1
 cases ho:occ v B
 ·exact ⟨true,_,.bind h f0 ho,out_bind h.ha f0 f1 h.h2 ho _⟩
 ·refine ⟨false,_,.occ h f0 ho,out_none fun θ e => ?_⟩
  have hn:¬ B = .free v:= by
   rintro rfl
   exact h.ne (root_free h.hb h.b2 h.h2).1
  have:= sz_occ_lt θ v B ho hn
  simp only [app] at e
  rw [e] at this
  omega
theorem uni_all (lim:Bool) (n:Nat):∀ (m:Nat) (t:List S55) (a b:Nat) (A B:Ty),nfree t <= n -> sz A + sz B <= m -> Reads t a A -> Reads t b B -> ∃ r t',Uni lim t a b r t' /\ Out lim t A B r t':= by
 induction n using Nat.strongRecOn with
 | _ n ihn =>
 intro m
 induction m using Nat.strongRecOn with
 | _ m ihm =>
 intro t a b A B hn hm hA hB
 obtain ⟨ra,r1,h1,ha,b1⟩:= reads_root hA
 obtain ⟨rb,r2,h2,hb,b2⟩:= reads_root hB
 by_cases e:ra = rb
 ·subst e
  obtain rfl:= reads_det h1 _ h2
  exact ⟨true,t,.eq r1 r2,out_eq⟩
 ·by_cases big:lim = true /\ (60 < sz A \/ 60 < sz B)
  ·refine ⟨false,t,.big big.1 r1 r2 e h1 h2 big.2,out_none fun θ he => ⟨big.1,?_⟩⟩
   have s1:= sz_app θ A
   have s2:= sz_app θ B
   rw [<- he] at s2
   omega
  ·have top:Top lim t a b ra rb A B:= ⟨r1,r2,e,ha,hb,h1,h2,b1,b2,fun hl => by have:¬ (60 < sz A \/ 60 < sz B):= fun q => big ⟨hl,q⟩; omega⟩
   have swapped:∀ v,B = .free v -> ¬ t[ra].f0 = 0 -> ∃ r t',Uni lim t a b r t' /\ Out lim t A B r t':= by
    rintro v rfl hf
    obtain ⟨rfl,f0,f1⟩:= root_free hb b2 h2
    have top':Top lim t v ra v ra (.free v) A:= ⟨.here v hb b2,.here ra ha b1,Ne.symm e,hb,ha,h2,h1,b2,b1,fun hl => (top.fit hl).symm⟩
    obtain ⟨r,t',u,o⟩:= uni_free top'
    exact ⟨r,t',.swap top hf f0 u,out_sym o⟩
   cases A with
   | free v => exact uni_free top
   | int =>
    have k1:= root_int ha b1 h1
    have n1:¬ t[ra].f0 = 0:= by omega
    cases B with
    | free v => exact swapped v rfl n1
    | int =>
     have k2:= root_int hb b2 h2
     exact ⟨true,t,.int top k1 k2,out_eq⟩
    | two k x y =>
     obtain ⟨k2,kk,_⟩:= root_two hb b2 h2
     exact ⟨false,t,.kind top n1 (by omega) (by omega),out_none fun θ he => by cases he⟩
    | one k x =>
     obtain ⟨k2,kk,_⟩:= root_one hb b2 h2
     exact ⟨false,t,.kind top n1 (by omega) (by omega),out_none fun θ he => by cases he⟩
   | one k x =>
    obtain ⟨k1,kk,g1,hx⟩:= root_one ha b1 h1
    have n1:¬ t[ra].f0 = 0:= by omega
    cases B with
    | free v => exact swapped v rfl n1
    | int =>
     have k2:= root_int hb b2 h2
     exact ⟨false,t,.kind top n1 (by omega) (by omega),out_none fun θ he => by cases he⟩
    | two k' x' y' =>
     obtain ⟨k2,kk',_⟩:= root_two hb b2 h2
     exact ⟨false,t,.kind top n1 (by omega) (by omega),out_none fun θ he => by cases he⟩
    | one k' x' =>
     obtain ⟨k2,kk',g2,hx'⟩:= root_one hb b2 h2
     by_cases ek:k = k'
     ·subst ek
      simp only [sz] at hm
      obtain ⟨r,t',u,o⟩:= ihm (sz x + sz x') (by omega) t _ _ x x' hn (Nat.le_refl _) hx hx'
      exact ⟨r,t',.one top (by rw [k1]; exact kk) (by rw [k1,k2]) g1 g2 u,out_one k o⟩
     ·refine ⟨false,t,.kind top n1 (by omega) (by omega),out_none fun θ he => ?_⟩
      simp only [app,Ty.one.injEq] at he
      exact absurd he.1 ek
   | two k x y =>
    obtain ⟨k1,kk,g1,g2,hx,hy⟩:= root_two ha b1 h1
    have n1:¬ t[ra].f0 = 0:= by omega
    cases B with
    | free v => exact swapped v rfl n1
    | int =>
     have k2:= root_int hb b2 h2
     exact ⟨false,t,.kind top n1 (by omega) (by omega),out_none fun θ he => by cases he⟩
    | one k' x' =>
     obtain ⟨k2,kk',_⟩:= root_one hb b2 h2
     exact ⟨false,t,.kind top n1 (by omega) (by omega),out_none fun θ he => by cases he⟩
    | two k' x' y' =>
     obtain ⟨k2,kk',g1',g2',hx',hy'⟩:= root_two hb b2 h2
     by_cases ek:k = k'
     ·subst ek
      simp only [sz] at hm
      obtain ⟨r,t1,u,o⟩:= ihm (sz x + sz x') (by omega) t _ _ x x' hn (Nat.le_refl _) hx hx'
      cases r with
      | false => exact ⟨false,t1,.no top (by rw [k1]; exact kk) (by rw [k1,k2]) g1 g1' u,out_no k o⟩
      | true =>
       obtain ⟨σ,o1,o2,o3,o4⟩:= o
       have hy1:= o1 _ _ hy
       have hy1':= o1 _ _ hy'
       have next:∃ r t',Uni lim t1 t[ra].f2.toNat t[rb].f2.toNat r t' /\ Out lim t1 (app σ y) (app σ y') r t':= by
        rcases o2 with rfl | o2
        ·have e1:= reads_det hy1 _ hy
         have e2:= reads_det hy1' _ hy'
         rw [e1,e2]
         exact ihm (sz y + sz y') (by omega) t1 _ _ y y' hn (Nat.le_refl _) hy hy'
        ·exact ihn (nfree t1) (by omega) _ t1 _ _ _ _ (Nat.le_refl _) (Nat.le_refl _) hy1 hy1'
       obtain ⟨r,t',u2,q⟩:= next
       exact ⟨r,t',.two top (by rw [k1]; exact kk) (by rw [k1,k2]) g1 g1' g2 g2' u u2,out_two k o1 o2 (o3 rfl) (fun θ he => by
        rcases o4 θ he with ⟨_,h⟩ | h
        ·exact .inl ⟨trivial,h⟩
        ·exact .inr h) q⟩
     ·refine ⟨false,t,.kind top n1 (by omega) (by omega),out_none fun θ he => ?_⟩
      simp only [app,Ty.two.injEq] at he
      exact absurd he.1 ek
def Ans (A B:Ty) (x:ByteArray × Bool):Prop:= (∃ σ,app σ A = app σ B /\ (∀ θ,app θ A = app θ B -> sz (app θ A) <= 60 -> ∀ v,app θ (σ v) = θ v) /\ sz (app σ A) <= 60 /\ x = ((txt (app σ A) []).1,true)) \/ ((∀ θ,app θ A = app θ B -> 60 < sz (app θ A)) /\ x = ((⟨#[]⟩:ByteArray),false))
def numOf (ρ:Nat -> Ty) (x:Int):Int:= match ρ x.toNat with | .free u => (u:Int) | _ => -1
theorem place_map (f g:Int -> Int) (ns:List Int) (hg:∀ x ∈ ns,g (f x) = x) (v:Int) (hv:g (f v) = v):place (ns.map f) (f v) = place ns v /\ (f v ∈ ns.map f ↔ v ∈ ns):= by
 induction ns with
 | nil => simp [place]
 | cons x xs ih =>
  obtain ⟨i1,i2⟩:= ih (fun y hy => hg y (List.mem_cons_of_mem _ hy))
  have hx:= hg x List.mem_cons_self
  have key:f x = f v ↔ x = v:= ⟨fun e => by rw [<- hx,<- hv,e],fun e => by rw [e]⟩
  simp only [List.map_cons,place,List.mem_cons,i2]
  refine ⟨?_,?_⟩
  ·by_cases e:x = v
   ·rw [if_pos e,if_pos (key.2 e)]
   ·rw [if_neg e,if_neg (fun q => e (key.1 q)),i1]
  ·constructor
   ·rintro (q | q)
    ·exact .inl (key.1 q.symm).symm
    ·exact .inr q
   ·rintro (q | q)
    ·exact .inl (by rw [q])
    ·exact .inr q
theorem txt_ren (ρ τ:Nat -> Ty) (T:Ty):∀ ns:List Int,app τ (app ρ T) = T -> (∀ x ∈ ns,numOf τ (numOf ρ x) = x) -> txt (app ρ T) (ns.map (numOf ρ)) = ((txt T ns).1,(txt T ns).2.map (numOf ρ)) /\ ∀ x ∈ (txt T ns).2,numOf τ (numOf ρ x) = x:= by
 induction T with
 | free v =>
  intro ns h hn
  simp only [app] at h ⊢
  cases e:ρ v with
  | free u =>
   rw [e] at h
   simp only [app] at h
   have f1:numOf ρ (v:Int) = (u:Int):= by unfold numOf; simp only [Int.toNat_natCast,e]
   have f2:numOf τ (u:Int) = (v:Int):= by unfold numOf; simp only [Int.toNat_natCast,h]
   have f3:numOf τ (numOf ρ (v:Int)) = (v:Int):= by rw [f1,f2]
   obtain ⟨p1,p2⟩:= place_map (numOf ρ) (numOf τ) ns hn (v:Int) f3
   rw [f1] at p1 p2
   simp only [txt,p1,p2]
   by_cases m:(v:Int) ∈ ns
   ·simp only [if_pos m]
    exact ⟨trivial,hn⟩
   ·simp only [if_neg m]
    refine ⟨by rw [List.map_append,List.map_singleton,f1],fun x hx => ?_⟩
    rcases List.mem_append.1 hx with hx | hx
    ·exact hn x hx
    ·obtain rfl:= List.mem_singleton.1 hx
     exact f3
  | int => rw [e] at h; cases h
  | two k a b => rw [e] at h; cases h
  | one k a => rw [e] at h; cases h
 | int =>
  intro ns h hn
  simp only [app,txt]
  exact ⟨trivial,hn⟩
 | two k a b iha ihb =>
  intro ns h hn
  simp only [app,Ty.two.injEq,true_and] at h
  obtain ⟨q1,q2⟩:= iha ns h.1 hn
  obtain ⟨q3,q4⟩:= ihb _ h.2 q2
  simp only [app,txt,q1,q3]
  exact ⟨trivial,q4⟩
 | one k a iha =>
  intro ns h hn
  simp only [app,Ty.one.injEq,true_and] at h
  obtain ⟨q1,q2⟩:= iha ns h hn
  simp only [app,txt,q1]
  exact ⟨trivial,q2⟩
theorem ans_unique {A B:Ty} {x y:ByteArray × Bool} (h:Ans A B x) (g:Ans A B y):x = y:= by
 rcases h with ⟨σ,h1,h2,h3,rfl⟩ | ⟨h1,rfl⟩
 ·rcases g with ⟨τ,g1,g2,g3,rfl⟩ | ⟨g1,rfl⟩
  ·have e1:app τ (app σ A) = app τ A:= by rw [app_app]; exact app_ext (h2 τ g1 g3) A
   have e2:app σ (app τ A) = app σ A:= by rw [app_app]; exact app_ext (g2 σ h1 h3) A
   have:= (txt_ren τ σ (app σ A) [] (by rw [e1,e2]) (fun x hx => by cases hx)).1
   rw [e1,List.map_nil] at this
   rw [this]
  ·have:= g1 σ h1
   omega
 ·rcases g with ⟨τ,g1,g2,g3,rfl⟩ | ⟨g1,rfl⟩
  ·have:= h1 τ g1
   omega
  ·rfl
theorem ans_out {lim:Bool} {t t':List S55} {A B:Ty} {r:Bool} {a:Nat} (h:Out lim t A B r t') (ha:Reads t a A):(r = true -> ∃ T,Reads t' a T /\ (sz T <= 60 -> Ans A B ((txt T []).1,true)) /\ (60 < sz T -> Ans A B ((⟨#[]⟩:ByteArray),false))) /\ (r = false -> Ans A B ((⟨#[]⟩:ByteArray),false)):= by
 obtain ⟨σ,h1,_,h3,h4⟩:= h
 refine ⟨fun e => ⟨app σ A,h1 a A ha,fun hs => .inl ⟨σ,h3 e,fun θ q z => ?_,hs,rfl⟩,fun hs => .inr ⟨fun θ q => ?_,rfl⟩⟩,fun e => .inr ⟨fun θ q => ?_,rfl⟩⟩
 ·rcases h4 θ q with ⟨_,hv⟩ | ⟨hl,hb⟩
  ·exact hv
  ·omega
 ·rcases h4 θ q with ⟨_,hv⟩ | ⟨hl,hb⟩
  ·have:app θ (app σ A) = app θ A:= by rw [app_app]; exact app_ext hv A
   have s:= sz_app θ (app σ A)
   rw [this] at s
   omega
  ·exact hb
 ·rcases h4 θ q with ⟨hr,_⟩ | ⟨hl,hb⟩
  ·rw [e] at hr; cases hr
  ·exact hb
theorem seek_name (v:Int) (ns:List Int) (hn:ns.length <= 1000) (m:Nat):∀ j:Nat,j + m = ns.length ->
  Ev (fun k => seek k ns v j) (if v ∈ ns.drop j then some ((j + place (ns.drop j) v:Nat):Int) else none):= by
 induction m with
 | zero =>
  intro j hj
  have c:¬ (j:Int) < (ns.length:Int):= by omega
  apply ev_step
  rw [List.drop_of_length_le (by omega)]
  simp only [seek,if_neg c]
  exact ev_eq (ev_const _) (by simp)
 | succ m ih =>
  intro j hj
  have c:(j:Int) < (ns.length:Int):= by omega
  have c0:0 <= (j:Int):= Int.natCast_nonneg j
  apply ev_step
  simp only [seek,if_pos c,if_pos c0,rd_get ns j (by omega),wrap_next j (by omega)]
  rw [List.drop_eq_getElem_cons (show j < ns.length by omega)]
  by_cases e:ns[j] = v
  ·simp only [if_pos e]
   refine ev_eq (ev_const _) ?_
   simp [place,e]
  ·simp only [if_neg e]
   refine ev_eq (ih (j + 1) (by omega)) ?_
   have e':¬ v = ns[j]:= fun h => e h.symm
   simp only [place,if_neg e,List.mem_cons,e',false_or]
   rw [show j + 1 + place (ns.drop (j + 1)) v = j + (place (ns.drop (j + 1)) v + 1) by omega]
theorem chase_root (t:List S55) (i j:Nat) (h:Root t i j):Ev (fun k => chase k t (i:Int)) (j:Int):= by
 induction h with
 | here i h hb =>
  have c:(i:Int) < (t.length:Int):= by omega
  have c0:0 <= (i:Int):= Int.natCast_nonneg i
  apply ev_step
  simp only [chase,if_pos c,if_pos c0,rdT_get t i h]
  by_cases h0:t[i].f0 = 0
  ·have h1:¬ t[i].f1 >= 0:= fun h1 => hb ⟨h0,h1⟩
   simp only [if_pos h0,if_neg h1]
   exact ev_const _
  ·simp only [if_neg h0]
   exact ev_const _
 | next i h j hb _ ih =>
  have c:(i:Int) < (t.length:Int):= by omega
  have c0:0 <= (i:Int):= Int.natCast_nonneg i
  unfold Bound at hb
  rw [show ((t[i].f1.toNat:Nat):Int) = t[i].f1 by omega] at ih
  apply ev_step
  simp only [chase,if_pos c,if_pos c0,rdT_get t i h,if_pos hb.1,if_pos hb.2]
  exact ih
theorem dec_impl (n:Int) (h0:-9223372036854775808 <= n) (h1:n <= 9223372036854775807):impl_Dec.f n = some (decM n):= by
 unfold impl_Dec.f strconv_Itoa_49.f
 rw [if_pos h0,if_pos h1]
 rfl
theorem cat_ok {a b:ByteArray} (h:a.size + b.size <= 9223372036854775807):cat a b = some (a ++ b):= by unfold cat; rw [if_pos h]
theorem impl_show (t:List S55) (T:Ty):∀ i,Reads t i T -> ∀ ns:List Int,ns.length + sz T <= 1000 -> Ev (fun k => shower k t ns (i:Int)) (txt T ns):= by
 induction T with
 | free v =>
  intro i hr ns hs
  obtain ⟨j,h2,h3,hj,hb⟩:= reads_root hr
  apply ev_step
  simp only [shower]
  refine ev_bind (chase_root t i j h2) ?_
  simp only [rdT_get t j hj]
  cases h3 with
  | free _ _ h4 _ =>
   simp only [sz] at hs
   have n1:¬ t[v].f0 = 1:= by omega
   have n2:¬ t[v].f0 = 2:= by omega
   have n3:¬ t[v].f0 = 3:= by omega
   have n4:¬ t[v].f0 = 4:= by omega
   have n5:¬ t[v].f0 = 5:= by omega
   simp only [if_neg n1,if_neg n2,if_neg n3,if_neg n4,if_neg n5]
   have:= seek_name (v:Int) ns (by omega) ns.length 0 (by omega)
   rw [List.drop_zero,Nat.zero_add] at this
   refine ev_bind this ?_
   have hp:= place_le ns v
   have hs:= decM_size (place ns v:Nat) (by omega) (by omega)
   simp only [txt]
   by_cases m:(v:Int) ∈ ns
   ·simp only [if_pos m]
    rw [dec_impl _ (by omega) (by omega),Option.bind_some,cat_ok (by rw [z3]; omega)]
    exact ev_const _
   ·simp only [if_neg m]
    have hpl:place ns v = ns.length:= by
     clear this hs hr h2 hp
     induction ns with
     | nil => rfl
     | cons x xs ih =>
      simp only [List.mem_cons,not_or] at m
      simp only [place,if_neg (fun h:x = (v:Int) => m.1 h.symm),List.length_cons]
      rw [ih (by simp at *; omega) m.2]
    rw [if_pos (by omega),show wrap64 (ns.length:Int) = (ns.length:Int) by unfold wrap64; omega,<- hpl,dec_impl _ (by omega) (by omega),Option.bind_some,cat_ok (by rw [z3]; omega)]
    exact ev_const _
  | bound _ _ _ h4 _ => exact absurd h4 hb
 | int =>
  intro i hr ns hs
  obtain ⟨j,h2,h3,hj,hb⟩:= reads_root hr
  apply ev_step
  simp only [shower]
  refine ev_bind (chase_root t i j h2) ?_
  simp only [rdT_get t j hj]
  cases h3 with
  | int _ _ h4 =>
   simp only [if_pos h4]
   exact ev_const _
  | bound _ _ _ h4 _ => exact absurd h4 hb
 | two kk a b iha ihb =>
  intro i hr ns hs
  obtain ⟨j,h2,h3,hj,hb⟩:= reads_root hr
  apply ev_step
  simp only [shower]
  refine ev_bind (chase_root t i j h2) ?_
  simp only [rdT_get t j hj]
  generalize hK:Ty.two kk a b = K at h3
  cases h3 with
  | two _ _ a' b' h4 g1 g2 ha hbb =>
   injection hK with e1 e2 e3
   subst e2 e3
   simp only [sz] at hs
   have l0:= txt_len a ns
   have s1:= txt_size a ns (by omega)
   have s2:= txt_size b (txt a ns).2 (by omega)
   have q1:= iha _ ha ns (by omega)
   rw [show ((t[j].f1.toNat:Nat):Int) = t[j].f1 by omega] at q1
   have q2:= ihb _ hbb (txt a ns).2 (by omega)
   rw [show ((t[j].f2.toNat:Nat):Int) = t[j].f2 by omega] at q2
   have n1:¬ t[j].f0 = 1:= by omega
   simp only [if_neg n1,txt,e1]
   by_cases k2:t[j].f0 = 2
   ·simp only [if_pos k2]
    refine ev_bind q1 (ev_bind q2 ?_)
    unfold show2
    rw [cat_ok (by rw [z1]; omega),Option.bind_some,cat_ok (by simp only [ByteArray.size_append,z1,z4]; omega),Option.bind_some,cat_ok (by simp only [ByteArray.size_append,z1,z4]; omega),Option.bind_some,cat_ok (by simp only [ByteArray.size_append,z1,z4,z2]; omega),Option.bind_some]
    exact ev_const _
   ·have k3:t[j].f0 = 3:= by omega
    simp only [if_neg k2,if_pos k3]
    refine ev_bind q1 (ev_bind q2 ?_)
    unfold show2
    rw [cat_ok (by rw [z1]; omega),Option.bind_some,cat_ok (by simp only [ByteArray.size_append,z1,z5]; omega),Option.bind_some,cat_ok (by simp only [ByteArray.size_append,z1,z5]; omega),Option.bind_some,cat_ok (by simp only [ByteArray.size_append,z1,z5,z2]; omega),Option.bind_some]
    exact ev_const _
  | bound _ _ _ h4 _ => exact absurd h4 hb
  | free _ _ _ _ => cases hK
  | int _ _ _ => cases hK
  | one _ _ _ _ _ _ => cases hK
 | one kk a iha =>
  intro i hr ns hs
  obtain ⟨j,h2,h3,hj,hb⟩:= reads_root hr
  apply ev_step
  simp only [shower]
  refine ev_bind (chase_root t i j h2) ?_
  simp only [rdT_get t j hj]
  generalize hK:Ty.one kk a = K at h3
  cases h3 with
  | one _ _ a' h4 g1 ha =>
   injection hK with e1 e2
   subst e2
   simp only [sz] at hs
   have s1:= txt_size a ns (by omega)
   have q1:= iha _ ha ns (by omega)
   rw [show ((t[j].f1.toNat:Nat):Int) = t[j].f1 by omega] at q1
   have n1:¬ t[j].f0 = 1:= by omega
   have n2:¬ t[j].f0 = 2:= by omega
   have n3:¬ t[j].f0 = 3:= by omega
   simp only [if_neg n1,if_neg n2,if_neg n3,txt,e1]
   by_cases k4:t[j].f0 = 4
   ·have k5:¬ t[j].f0 = 5:= by omega
    simp only [if_pos k4,if_neg k5]
    refine ev_bind q1 ?_
    unfold show1
    rw [cat_ok (by rw [z7]; omega),Option.bind_some,cat_ok (by simp only [ByteArray.size_append,z7,z2]; omega),Option.bind_some]
    exact ev_const _
   ·have k5:t[j].f0 = 5:= by omega
    simp only [if_neg k4,if_pos k5]
    refine ev_bind q1 ?_
    unfold show1
    rw [cat_ok (by rw [z6]; omega),Option.bind_some,cat_ok (by simp only [ByteArray.size_append,z6,z2]; omega),Option.bind_some]
    exact ev_const _
  | bound _ _ _ h4 _ => exact absurd h4 hb
  | free _ _ _ _ => cases hK
  | int _ _ _ => cases hK
  | two _ _ _ _ _ _ _ _ _ => cases hK
theorem slv_find (t:List S55) (i j:Nat) (h:Root t i j):Ev (fun k => chase k t (i:Int)) (j:Int):= chase_root t i j h
theorem slv_one {t:List S55} {v x:Int} {r:Bool} (h:Ev (fun k => slvIn k t v x) r):Ev (fun k => slvInL k t v [x] 0) r:= by
 have c:(0:Int) < (([x]:List Int).length:Int):= by simp
 have z:(0:Int) <= 0:= by omega
 apply ev_step
 simp only [slvInL,if_pos c,if_pos z]
 refine ev_bind h ?_
 cases r
 ·simp only [Bool.false_eq_true,if_false]
  have c1:¬ (1:Int) < (([x]:List Int).length:Int):= by simp
  rw [wrap_one]
  apply ev_step
  simp only [slvInL,if_neg c1]
  exact ev_const _
 ·simp only [if_true]
  exact ev_const _
theorem slv_two {t:List S55} {v x y:Int} {r s:Bool} (h:Ev (fun k => slvIn k t v x) r) (g:Ev (fun k => slvIn k t v y) s):Ev (fun k => slvInL k t v [x,y] 0) (r || s):= by
 have c:(0:Int) < (([x,y]:List Int).length:Int):= by simp
 have z:(0:Int) <= 0:= by omega
 apply ev_step
 simp only [slvInL,if_pos c,if_pos z]
 refine ev_bind h ?_
 cases r
 ·simp only [Bool.false_eq_true,if_false,Bool.false_or]
  have c1:(1:Int) < (([x,y]:List Int).length:Int):= by simp
  have z1:(0:Int) <= 1:= by omega
  rw [wrap_one]
  apply ev_step
  simp only [slvInL,if_pos c1,if_pos z1]
  refine ev_bind g ?_
  cases s
  ·simp only [Bool.false_eq_true,if_false]
   have c2:¬ (2:Int) < (([x,y]:List Int).length:Int):= by simp
   rw [wrap_two]
   apply ev_step
   simp only [slvInL,if_neg c2]
   exact ev_const _
  ·simp only [if_true]
   exact ev_const _
 ·simp only [if_true,Bool.true_or]
  exact ev_const _
theorem slv_nil {t:List S55} {v:Int}:Ev (fun k => slvInL k t v [] 0) false:= by
 have c:¬ (0:Int) < (([]:List Int).length:Int):= by simp
 apply ev_step
 simp only [slvInL,if_neg c]
 exact ev_const _
theorem occ_impl (t:List S55) (v:Nat) (hv:v < t.length) (f0:t[v].f0 = 0) (f1:t[v].f1 < 0) (T:Ty):∀ i,Reads t i T -> Ev (fun k => slvIn k t (v:Int) (i:Int)) (occ v T):= by
 induction T with
 | free u =>
  intro i hr
  obtain ⟨j,h2,h3,hj,hb⟩:= reads_root hr
  obtain ⟨rfl,g0,g1⟩:= root_free hj hb h3
  apply ev_step
  simp only [slvIn]
  refine ev_bind (slv_find t i u h2) ?_
  by_cases e:u = v
  ·subst e
   simp only [if_true,occ,decide_true]
   exact ev_const _
  ·have e':¬ (u:Int) = (v:Int):= by omega
   simp only [if_neg e',occ,decide_eq_false e,rdT_get t u hj]
   refine ev_bind (impl_kids t[u] (reads_kind h3 hj)) ?_
   have hk:kids t[u] = []:= by unfold kids; simp [g0,show ¬ t[u].f1 >= 0 by omega]
   rw [hk]
   exact slv_nil
 | int =>
  intro i hr
  obtain ⟨j,h2,h3,hj,hb⟩:= reads_root hr
  have k1:= root_int hj hb h3
  have ne:¬ (j:Int) = (v:Int):= by
   intro e
   obtain rfl:j = v:= by omega
   omega
  apply ev_step
  simp only [slvIn]
  refine ev_bind (slv_find t i j h2) ?_
  simp only [if_neg ne,rdT_get t j hj]
  refine ev_bind (impl_kids t[j] (reads_kind h3 hj)) ?_
  have hk:kids t[j] = []:= by unfold kids; simp [k1]
  rw [hk]
  exact slv_nil
 | two k a b iha ihb =>
  intro i hr
  obtain ⟨j,h2,h3,hj,hb⟩:= reads_root hr
  obtain ⟨k1,kk,g1,g2,ha,hbb⟩:= root_two hj hb h3
  have ne:¬ (j:Int) = (v:Int):= by
   intro e
   obtain rfl:j = v:= by omega
   omega
  have qa:= iha _ ha
  rw [show ((t[j].f1.toNat:Nat):Int) = t[j].f1 by omega] at qa
  have qb:= ihb _ hbb
  rw [show ((t[j].f2.toNat:Nat):Int) = t[j].f2 by omega] at qb
  apply ev_step
  simp only [slvIn]
  refine ev_bind (slv_find t i j h2) ?_
  simp only [if_neg ne,rdT_get t j hj]
  refine ev_bind (impl_kids t[j] (reads_kind h3 hj)) ?_
  have hk:kids t[j] = [t[j].f1,t[j].f2]:= by unfold kids; rw [<- k1] at kk; rcases kk with h | h <;> simp [h]
  rw [hk]
  exact slv_two qa qb
 | one k a iha =>
  intro i hr
  obtain ⟨j,h2,h3,hj,hb⟩:= reads_root hr
  obtain ⟨k1,kk,g1,ha⟩:= root_one hj hb h3
  have ne:¬ (j:Int) = (v:Int):= by
   intro e
   obtain rfl:j = v:= by omega
   omega
  have qa:= iha _ ha
  rw [show ((t[j].f1.toNat:Nat):Int) = t[j].f1 by omega] at qa
  apply ev_step
  simp only [slvIn]
  refine ev_bind (slv_find t i j h2) ?_
  simp only [if_neg ne,rdT_get t j hj]
  refine ev_bind (impl_kids t[j] (reads_kind h3 hj)) ?_
  have hk:kids t[j] = [t[j].f1]:= by unfold kids; rw [<- k1] at kk; rcases kk with h | h <;> simp [h]
  rw [hk]
  exact slv_one qa
theorem size_impl (t:List S55) (i:Nat) (T:Ty) (h:Reads t i T):Ev (fun k => impl_sizeOf.f k t (i:Int)) (least (sz T) 60):= by
 unfold impl_sizeOf.f
 refine ev_bind (impl_size t T i h 60 (by omega) (by omega)) ?_
 refine ev_eq (ev_const _) ?_
 have:= least_le (sz T) 60
 unfold mn
 split <;> omega
theorem lst_nil {t:List S55}:Ev (fun k => slvSameL k t [] [] 0) (true,t):= by
 have c:¬ (0:Int) < (([]:List Int).length:Int):= by simp
 apply ev_step
 simp only [slvSameL,if_neg c]
 exact ev_const _
theorem lst_one {t t':List S55} {x y:Int} {r:Bool} (h:Ev (fun k => slvSame k t x y) (r,t')):Ev (fun k => slvSameL k t [x] [y] 0) (r,t'):= by
 have c:(0:Int) < (([x]:List Int).length:Int):= by simp
 have d:(0:Int) < (([y]:List Int).length:Int):= by simp
 have z:(0:Int) <= 0:= by omega
 apply ev_step
 simp only [slvSameL,if_pos c,if_pos z,if_pos d]
 refine ev_bind h ?_
 cases r
 ·simp only [Bool.false_eq_true,if_false]
  exact ev_const _
 ·simp only [if_true]
  have c1:¬ (1:Int) < (([x]:List Int).length:Int):= by simp
  rw [wrap_one]
  apply ev_step
  simp only [slvSameL,if_neg c1]
  exact ev_const _
theorem lst_no {t t':List S55} {x y x2 y2:Int} (h:Ev (fun k => slvSame k t x y) (false,t')):Ev (fun k => slvSameL k t [x,x2] [y,y2] 0) (false,t'):= by
 have c:(0:Int) < (([x,x2]:List Int).length:Int):= by simp
 have d:(0:Int) < (([y,y2]:List Int).length:Int):= by simp
 have z:(0:Int) <= 0:= by omega
 apply ev_step
 simp only [slvSameL,if_pos c,if_pos z,if_pos d]
 refine ev_bind h ?_
 simp only [Bool.false_eq_true,if_false]
 exact ev_const _
theorem lst_two {t t1 t':List S55} {x y x2 y2:Int} {r:Bool} (h:Ev (fun k => slvSame k t x y) (true,t1)) (g:Ev (fun k => slvSame k t1 x2 y2) (r,t')):Ev (fun k => slvSameL k t [x,x2] [y,y2] 0) (r,t'):= by
 have c:(0:Int) < (([x,x2]:List Int).length:Int):= by simp
 have d:(0:Int) < (([y,y2]:List Int).length:Int):= by simp
 have z:(0:Int) <= 0:= by omega
 apply ev_step
 simp only [slvSameL,if_pos c,if_pos z,if_pos d]
 refine ev_bind h ?_
 simp only [if_true]
 have c1:(1:Int) < (([x,x2]:List Int).length:Int):= by simp
 have d1:(1:Int) < (([y,y2]:List Int).length:Int):= by simp
 have z1:(0:Int) <= 1:= by omega
 rw [wrap_one]
 apply ev_step
 simp only [slvSameL,if_pos c1,if_pos z1,if_pos d1]
 refine ev_bind g ?_
 cases r
 ·simp only [Bool.false_eq_true,if_false]
  exact ev_const _
 ·simp only [if_true]
  have c2:¬ (2:Int) < (([x,x2]:List Int).length:Int):= by simp
  rw [wrap_two]
  apply ev_step
  simp only [slvSameL,if_neg c2]
  exact ev_const _
theorem slv_head {t t':List S55} {a b ra rb:Nat} {A B:Ty} {r:Bool} (h:Top true t a b ra rb A B)
  (g:Ev (fun k => if (t[ra]'h.ha).f0 = 0 then ((slvIn k t (ra:Int) (rb:Int)).bind fun s => (if s = true then (some (false,t)) else (some (true,t.set ra (⟨(t[ra]'h.ha).f0,(rb:Int),(t[ra]'h.ha).f2⟩:S55))))) else (if (t[rb]'h.hb).f0 = 0 then (slvSame k t (rb:Int) (ra:Int)) else (if (t[ra]'h.ha).f0 = (t[rb]'h.hb).f0 then ((impl_partsOf.f k (t[ra]'h.ha).f0 (t[ra]'h.ha).f1 (t[ra]'h.ha).f2).bind fun p => ((impl_partsOf.f k (t[rb]'h.hb).f0 (t[rb]'h.hb).f1 (t[rb]'h.hb).f2).bind fun q => (slvSameL k t p q 0))) else (some (false,t))))) (r,t')) :
  Ev (fun k => slvSame k t (a:Int) (b:Int)) (r,t'):= by
 have ne:¬ (ra:Int) = (rb:Int):= fun e => h.ne (by omega)
 obtain ⟨s1,s2⟩:= h.fit rfl
 have l1:least (sz A) 60 <= 60:= by unfold least; split <;> omega
 have l2:least (sz B) 60 <= 60:= by unfold least; split <;> omega
 apply ev_step
 simp only [slvSame]
 refine ev_bind (slv_find t a ra h.r1) (ev_bind (slv_find t b rb h.r2) ?_)
 simp only [if_neg ne]
 refine ev_bind (size_impl t ra A h.h1) ?_
 simp only [if_pos l1]
 refine ev_bind (size_impl t rb B h.h2) ?_
 simp only [if_pos l2,rdT_get t ra h.ha,rdT_get t rb h.hb,Int.toNat_natCast]
 exact g
theorem uni_impl {t t':List S55} {a b:Nat} {r:Bool} (h:Uni true t a b r t'):Ev (fun k => slvSame k t (a:Int) (b:Int)) (r,t'):= by
 induction h with
 | eq r1 r2 =>
  apply ev_step
  simp only [slvSame]
  refine ev_bind (slv_find _ _ _ r1) (ev_bind (slv_find _ _ _ r2) ?_)
  simp only [if_true]
  exact ev_const _
 | @big t a b ra rb A B _ r1 r2 e h1 h2 hs =>
  have ne:¬ (ra:Int) = (rb:Int):= fun q => e (by omega)
  apply ev_step
  simp only [slvSame]
  refine ev_bind (slv_find t a ra r1) (ev_bind (slv_find t b rb r2) ?_)
  simp only [if_neg ne]
  refine ev_bind (size_impl t ra A h1) ?_
  by_cases c:least (sz A) 60 <= 60
  ·simp only [if_pos c]
   refine ev_bind (size_impl t rb B h2) ?_
   have c2:¬ least (sz B) 60 <= 60:= by unfold least at c ⊢; split <;> split at c <;> omega
   simp only [if_neg c2]
   exact ev_const _
  ·simp only [if_neg c]
   exact ev_const _
 | @occ t a b ra rb A B h f0 ho =>
  have f1:(t[ra]'h.ha).f1 < 0:= by
   have:= h.b1
   unfold Bound at this
   omega
  refine slv_head h ?_
  simp only [if_pos f0]
  refine ev_bind (occ_impl t ra h.ha f0 f1 B rb h.h2) ?_
  simp only [ho,if_true]
  exact ev_const _
 | @bind t a b ra rb A B h f0 ho =>
  have f1:(t[ra]'h.ha).f1 < 0:= by
   have:= h.b1
   unfold Bound at this
   omega
  refine slv_head h ?_
  simp only [if_pos f0]
  refine ev_bind (occ_impl t ra h.ha f0 f1 B rb h.h2) ?_
  simp only [ho,Bool.false_eq_true,if_false,f0]
  exact ev_const _
 | @swap t t' a b ra rb A B r h n0 f0 _ ih =>
  refine slv_head h ?_
  simp only [if_neg n0,if_pos f0]
  exact ih
 | @kind t a b ra rb A B h n0 m0 nk =>
  refine slv_head h ?_
  simp only [if_neg n0,if_neg m0,if_neg nk]
  exact ev_const _
 | @int t a b ra rb A B h k1 k2 =>
  have n0:¬ (t[ra]'h.ha).f0 = 0:= by omega
  have m0:¬ (t[rb]'h.hb).f0 = 0:= by omega
  have ek:(t[ra]'h.ha).f0 = (t[rb]'h.hb).f0:= by omega
  refine slv_head h ?_
  simp only [if_neg n0,if_neg m0,if_pos ek]
  refine ev_bind (impl_kids _ (reads_kind h.h1 h.ha)) (ev_bind (impl_kids _ (reads_kind h.h2 h.hb)) ?_)
  have e1:kids (t[ra]'h.ha) = []:= by unfold kids; simp [k1]
  have e2:kids (t[rb]'h.hb) = []:= by unfold kids; simp [k2]
  rw [e1,e2]
  exact lst_nil
 | @one t t' a b ra rb A B r h kk k2 g1 g2 _ ih =>
  have n0:¬ (t[ra]'h.ha).f0 = 0:= by omega
  have m0:¬ (t[rb]'h.hb).f0 = 0:= by omega
  refine slv_head h ?_
  simp only [if_neg n0,if_neg m0,if_pos k2.symm]
  refine ev_bind (impl_kids _ (reads_kind h.h1 h.ha)) (ev_bind (impl_kids _ (reads_kind h.h2 h.hb)) ?_)
  have e1:kids (t[ra]'h.ha) = [(t[ra]'h.ha).f1]:= by unfold kids; rcases kk with q | q <;> simp [q]
  have e2:kids (t[rb]'h.hb) = [(t[rb]'h.hb).f1]:= by unfold kids; rw [k2]; rcases kk with q | q <;> simp [q]
  rw [show (((t[ra]'h.ha).f1.toNat:Nat):Int) = (t[ra]'h.ha).f1 by omega,show (((t[rb]'h.hb).f1.toNat:Nat):Int) = (t[rb]'h.hb).f1 by omega] at ih
  rw [e1,e2]
  exact lst_one ih
 | @no t t' a b ra rb A B h kk k2 g1 g2 _ ih =>
  have n0:¬ (t[ra]'h.ha).f0 = 0:= by omega
  have m0:¬ (t[rb]'h.hb).f0 = 0:= by omega
  refine slv_head h ?_
  simp only [if_neg n0,if_neg m0,if_pos k2.symm]
  refine ev_bind (impl_kids _ (reads_kind h.h1 h.ha)) (ev_bind (impl_kids _ (reads_kind h.h2 h.hb)) ?_)
  have e1:kids (t[ra]'h.ha) = [(t[ra]'h.ha).f1,(t[ra]'h.ha).f2]:= by unfold kids; rcases kk with q | q <;> simp [q]
  have e2:kids (t[rb]'h.hb) = [(t[rb]'h.hb).f1,(t[rb]'h.hb).f2]:= by unfold kids; rw [k2]; rcases kk with q | q <;> simp [q]
  rw [show (((t[ra]'h.ha).f1.toNat:Nat):Int) = (t[ra]'h.ha).f1 by omega,show (((t[rb]'h.hb).f1.toNat:Nat):Int) = (t[rb]'h.hb).f1 by omega] at ih
  rw [e1,e2]
  exact lst_no ih
 | @two t t1 t' a b ra rb A B r h kk k2 g1 g2 g3 g4 _ _ ih ih2 =>
  have n0:¬ (t[ra]'h.ha).f0 = 0:= by omega
  have m0:¬ (t[rb]'h.hb).f0 = 0:= by omega
  refine slv_head h ?_
  simp only [if_neg n0,if_neg m0,if_pos k2.symm]
  refine ev_bind (impl_kids _ (reads_kind h.h1 h.ha)) (ev_bind (impl_kids _ (reads_kind h.h2 h.hb)) ?_)
  have e1:kids (t[ra]'h.ha) = [(t[ra]'h.ha).f1,(t[ra]'h.ha).f2]:= by unfold kids; rcases kk with q | q <;> simp [q]
  have e2:kids (t[rb]'h.hb) = [(t[rb]'h.hb).f1,(t[rb]'h.hb).f2]:= by unfold kids; rw [k2]; rcases kk with q | q <;> simp [q]
  rw [show (((t[ra]'h.ha).f1.toNat:Nat):Int) = (t[ra]'h.ha).f1 by omega,show (((t[rb]'h.hb).f1.toNat:Nat):Int) = (t[rb]'h.hb).f1 by omega] at ih
  rw [show (((t[ra]'h.ha).f2.toNat:Nat):Int) = (t[ra]'h.ha).f2 by omega,show (((t[rb]'h.hb).f2.toNat:Nat):Int) = (t[rb]'h.hb).f2 by omega] at ih2
  rw [e1,e2]
  exact lst_two ih ih2
def Fair (t:List S55) (a b:Int) (x:ByteArray × Bool):Prop:= table t = true /\ 0 <= a /\ a < t.length /\ 0 <= b /\ b < t.length /\ ∃ A B,Reads t a.toNat A /\ Reads t b.toNat B /\ sz A <= 60 /\ sz B <= 60 /\ Ans A B x
def Foul (t:List S55) (a:Int):Prop:= ¬ (table t = true /\ 0 <= a /\ a < t.length) \/ ∃ A,Reads t a.toNat A /\ 60 < sz A
theorem size_cases (t:List S55) (hn:t.length <= 1048576) (a:Int):∃ r,Ev (fun k => spec_SizeOf.f k t a) r /\ Ev (fun k => impl_SizeOf.f k t a) r /\ ((¬ (r >= 1 /\ r <= 60) /\ Foul t a) \/ ((r >= 1 /\ r <= 60) /\ table t = true /\ 0 <= a /\ a < t.length /\ ∃ A,Reads t a.toNat A /\ sz A <= 60)):= by
 obtain ⟨r,e1,e2,h⟩:= sizes_both t hn a
 refine ⟨r,e1,e2,?_⟩
 rcases h with ⟨rfl,h⟩ | ⟨h1,h2,h3,A,hA,rfl⟩
 ·exact .inl ⟨by omega,.inl h⟩
 ·have hp:= sz_pos A
  by_cases c:sz A <= 60
  ·exact .inr ⟨by unfold least; split <;> omega,h1,h2,h3,A,hA,c⟩
  ·exact .inl ⟨by unfold least; split <;> omega,.inr ⟨A,hA,by omega⟩⟩
theorem unified_impl (t:List S55) (hn:t.length <= 1048576) (a b:Int):∃ x,Ev (fun k => impl_Unified.f k t a b) x /\ (((Foul t a \/ Foul t b) /\ x = ((⟨#[]⟩:ByteArray),false)) \/ Fair t a b x):= by
 obtain ⟨ra,_,ea,ha⟩:= size_cases t hn a
 obtain ⟨rb,_,eb,hb⟩:= size_cases t hn b
 unfold impl_Unified.f unifiedF
 rcases ha with ⟨na,fa⟩ | ⟨ga,ht,a0,a1,A,hA,sA⟩
 ·refine ⟨_,ev_bind ea ?_,.inl ⟨.inl fa,rfl⟩⟩
  rw [in_same,in_some]
  simp only [Option.bind_some,decide_eq_false na,Bool.false_eq_true,if_false]
  exact ev_const _
 ·rcases hb with ⟨nb,fb⟩ | ⟨gb,_,b0,b1,B,hB,sB⟩
  ·refine ⟨_,ev_bind ea ?_,.inl ⟨.inr fb,rfl⟩⟩
   rw [in_same,in_some]
   simp only [Option.bind_some,decide_eq_true ga,if_true]
   refine ev_bind eb ?_
   rw [in_same,in_some]
   simp only [Option.bind_some,decide_eq_false nb,Bool.false_eq_true,if_false]
   exact ev_const _
  ·have lp:0 < t.length:= by omega
   have ll:t.length < 5864062014805:= by omega
   have ia:((a.toNat:Nat):Int) = a:= by omega
   have ib:((b.toNat:Nat):Int) = b:= by omega
   obtain ⟨r,t',u,o⟩:= uni_all true (nfree t) (sz A + sz B) t a.toNat b.toNat A B (Nat.le_refl _) (Nat.le_refl _) hA hB
   have ev:= uni_impl u
   rw [ia,ib] at ev
   obtain ⟨q1,q2⟩:= ans_out o hA
   have start:∀ x:ByteArray × Bool,Ev (fun k => if r = true then ((impl_sizeOf.f k t' a).bind fun z => (if z <= 60 then ((showTypeF k t' a).bind fun s => (some (s,true))) else (some ((⟨#[]⟩:ByteArray),false)))) else (some ((⟨#[]⟩:ByteArray),false))) x -> Ev (fun k => (impl_SizeOf.f k t a).bind fun m => (impl_in.f m 1 60).bind fun t_1 => (if t_1 = true then ((impl_SizeOf.f k t b).bind fun n => ((impl_in.f n 1 60).bind fun u => (if u = true then (if 0 < t.length then (if t.length < 5864062014805 then ((slvSame k t a b).bind fun s => (if s.1 = true then ((impl_sizeOf.f k s.2 a).bind fun z => (if z <= 60 then ((showTypeF k s.2 a).bind fun r => (some (r,true))) else (some ((⟨#[]⟩:ByteArray),false)))) else (some ((⟨#[]⟩:ByteArray),false)))) else (none)) else (none)) else (some ((⟨#[]⟩:ByteArray),false))))) else (some ((⟨#[]⟩:ByteArray),false)))) x:= by
    intro x hx
    refine ev_bind ea ?_
    rw [in_same,in_some]
    simp only [Option.bind_some,decide_eq_true ga,if_true]
    refine ev_bind eb ?_
    rw [in_same,in_some]
    simp only [Option.bind_some,decide_eq_true gb,if_true,if_pos lp,if_pos ll]
    exact ev_bind ev hx
   cases r with
   | false =>
    refine ⟨_,start _ ?_,.inr ⟨ht,a0,a1,b0,b1,A,B,hA,hB,sA,sB,q2 rfl⟩⟩
    simp only [Bool.false_eq_true,if_false]
    exact ev_const _
   | true =>
    obtain ⟨T,hT,p1,p2⟩:= q1 rfl
    have es:= size_impl t' a.toNat T hT
    rw [ia] at es
    by_cases c:sz T <= 60
    ·have l1:least (sz T) 60 <= 60:= by unfold least; split <;> omega
     have sh:= impl_show t' T a.toNat hT [] (by simp; omega)
     rw [ia] at sh
     refine ⟨_,start _ ?_,.inr ⟨ht,a0,a1,b0,b1,A,B,hA,hB,sA,sB,p1 c⟩⟩
     simp only [if_true]
     refine ev_bind es ?_
     simp only [if_pos l1]
     unfold showTypeF
     exact ev_bind (ev_bind sh (ev_const _)) (ev_const _)
    ·have l1:¬ least (sz T) 60 <= 60:= by unfold least; split <;> omega
     refine ⟨_,start _ ?_,.inr ⟨ht,a0,a1,b0,b1,A,B,hA,hB,sA,sB,p2 (by omega)⟩⟩
     simp only [if_true]
     refine ev_bind es ?_
     simp only [if_neg l1]
     exact ev_const _
theorem dec_end (x3:ByteArray) (b:Bool) (hs:x3.size <= 1000):Ev (fun k => spec_Dec.l0 k 0 x3 b) (if b = true then (⟨#[45]⟩:ByteArray) ++ x3 else x3):= by
 apply ev_step
 have h1:1 + x3.size <= 9223372036854775807:= by omega
 cases b
 ·simp only [spec_Dec.l0,if_true,Bool.false_eq_true,if_false]
  exact ev_const _
 ·simp only [spec_Dec.l0,if_true,if_pos h1]
  exact ev_const _
theorem dec_loop (u:Nat):∀ (x:Int) (t:List UInt8) (b:Bool),u <= 9223372036854775808 -> 0 < u -> (x = (u:Int) /\ u <= 9223372036854775807 \/ x = -(u:Int)) -> t.length + u.log2 <= 500 ->
  Ev (fun k => spec_Dec.l0 k x (⟨t.toArray⟩:ByteArray) b) (if b = true then (⟨#[45]⟩:ByteArray) ++ (⟨(Lib.decDigits u ++ t).toArray⟩:ByteArray) else (⟨(Lib.decDigits u ++ t).toArray⟩:ByteArray)):= by
 induction u using Nat.strongRecOn with
 | _ u ih =>
  intro x t b hu h0 hx ht
  have hne:¬ x = 0:= by omega
  have hd:u % 10 < 10:= Nat.mod_lt _ (by omega)
  have hsz:(strOfNums [wrap64 (48 + ((u % 10:Nat):Int)) % 256]).size = 1:= rfl
  have hts:(⟨t.toArray⟩:ByteArray).size = t.length:= digs t
  have h1:(strOfNums [wrap64 (48 + ((u % 10:Nat):Int)) % 256]).size + (⟨t.toArray⟩:ByteArray).size <= 9223372036854775807:= by rw [hsz,hts]; omega
  have next:Ev (fun k => spec_Dec.l0 k (wrap64 (Int.tdiv x 10)) (strOfNums [wrap64 (48 + ((u % 10:Nat):Int)) % 256] ++ (⟨t.toArray⟩:ByteArray)) b) (if b = true then (⟨#[45]⟩:ByteArray) ++ (⟨(Lib.decDigits u ++ t).toArray⟩:ByteArray) else (⟨(Lib.decDigits u ++ t).toArray⟩:ByteArray)):= by
   rw [one_num _ hd,bytes_add]
   by_cases c:u < 10
   ·have e:wrap64 (Int.tdiv x 10) = 0:= by
     rcases hx with ⟨rfl,_⟩ | rfl
     ·rw [Int.tdiv_eq_ediv_of_nonneg (by omega)]; unfold wrap64; omega
     ·rw [Int.neg_tdiv,Int.tdiv_eq_ediv_of_nonneg (by omega)]; unfold wrap64; omega
    rw [e,dec_last u c,show u % 10 = u from Nat.mod_eq_of_lt c]
    exact dec_end _ b (by rw [digs]; simp; omega)
   ·have hl:(u / 10).log2 + 1 <= u.log2:= by
     have h2:u / 10 <= u / 2:= by omega
     have h4:2 ^ u.log2 <= u:= Nat.log2_self_le (by omega)
     have h5:u < 2 ^ (u.log2 + 1):= Nat.lt_log2_self
     have h6:(u / 10).log2 < u.log2:= (Nat.log2_lt (by omega)).2 (by rw [Nat.pow_succ] at h5; omega)
     omega
    have:= ih (u / 10) (by omega) (wrap64 (Int.tdiv x 10)) ([UInt8.ofNat (48 + u % 10)] ++ t) b (by omega) (by omega) (by
     rcases hx with ⟨rfl,hx⟩ | rfl
     ·left
      rw [Int.tdiv_eq_ediv_of_nonneg (by omega)]; unfold wrap64; omega
     ·right
      rw [Int.neg_tdiv,Int.tdiv_eq_ediv_of_nonneg (by omega)]; unfold wrap64; omega) (by simp; omega)
    rw [dec_step u (by omega),List.append_assoc]
    exact this
  apply ev_step
  by_cases hn:Int.tmod x 10 < 0
  ·have e:wrap64 (-(Int.tmod x 10)) = ((u % 10:Nat):Int):= by
    rcases hx with ⟨rfl,_⟩ | rfl
    ·rw [Int.tmod_eq_emod_of_nonneg (by omega)] at hn; omega
    ·rw [Int.neg_tmod,Int.tmod_eq_emod_of_nonneg (by omega)]; unfold wrap64; omega
   simp only [spec_Dec.l0,if_neg hne,if_pos hn,Option.bind_some,e,if_pos h1]
   exact next
  ·have e:Int.tmod x 10 = ((u % 10:Nat):Int):= by
    rcases hx with ⟨rfl,_⟩ | rfl
    ·rw [Int.tmod_eq_emod_of_nonneg (by omega)]; omega
    ·rw [Int.neg_tmod,Int.tmod_eq_emod_of_nonneg (by omega)] at hn ⊢; omega
   simp only [spec_Dec.l0,if_neg hne,if_neg hn,Option.bind_some,e,if_pos h1]
   exact next
theorem spec_dec (n:Int) (h0:-9223372036854775808 <= n) (h1:n <= 9223372036854775807):Ev (fun k => spec_Dec.f k n) (decM n):= by
 unfold spec_Dec.f
 by_cases c:n = 0
 ·simp only [if_pos c]
  refine ev_eq (ev_const _) ?_
  subst c
  unfold decM Lib.itoa
  rw [if_neg (by omega)]
  rw [show (0:Int).toNat = 0 from rfl,dec_last 0 (by omega)]
  rfl
 ·simp only [if_neg c]
  have hl:n.natAbs.log2 <= 64:= by
   have:n.natAbs.log2 < 65:= (Nat.log2_lt (by omega)).2 (by omega)
   omega
  have:= dec_loop n.natAbs n [] (decide (n < 0)) (by omega) (by omega) (by omega) (by simp; omega)
  refine ev_eq this ?_
  unfold decM Lib.itoa
  rw [List.append_nil]
  by_cases s:n < 0
  ·rw [decide_eq_true s,if_pos rfl,if_pos s]
   rw [show (⟨#[45]⟩:ByteArray) = (⟨[45].toArray⟩:ByteArray) from rfl,bytes_add]
   rfl
  ·rw [decide_eq_false s,if_neg (by simp),if_neg s,show n.natAbs = n.toNat by omega]
theorem spec_name (v:Int) (ns:List Int) (hn:ns.length <= 1000) (m:Nat):∀ j:Nat,j + m = ns.length ->
  Ev (fun k => spec_l8Show.l0 k v ns j) (quo (j + place (ns.drop j) v:Nat),if v ∈ ns.drop j then ns else ns ++ [v]):= by
 induction m with
 | zero =>
  intro j hj
  have c:¬ (j:Int) < (ns.length:Int):= by omega
  have hs:= decM_size (ns.length:Int) (by omega) (by omega)
  apply ev_step
  simp only [spec_l8Show.l0,if_neg c]
  refine ev_bind (spec_dec (ns.length:Int) (by omega) (by omega)) ?_
  have c1:1 + (decM (ns.length:Int)).size <= 9223372036854775807:= by omega
  have c2:([]:List Int).length + ns.length < 17592186044416:= by simp; omega
  have c3:(([]:List Int) ++ ns).length < 17592186044416:= by simp; omega
  rw [List.drop_of_length_le (by omega)]
  simp only [if_pos c1,Option.bind_some,if_pos c2,if_pos c3]
  refine ev_eq (ev_const _) ?_
  obtain rfl:j = ns.length:= by omega
  simp [place,quo]
 | succ m ih =>
  intro j hj
  have c:(j:Int) < (ns.length:Int):= by omega
  have c0:0 <= (j:Int):= Int.natCast_nonneg j
  have hs:= decM_size (j:Int) (by omega) (by omega)
  apply ev_step
  simp only [spec_l8Show.l0,if_pos c,if_pos c0,rd_get ns j (by omega),wrap_next j (by omega)]
  rw [List.drop_eq_getElem_cons (show j < ns.length by omega)]
  by_cases e:ns[j] = v
  ·simp only [if_pos e]
   refine ev_bind (spec_dec (j:Int) (by omega) (by omega)) ?_
   have c1:1 + (decM (j:Int)).size <= 9223372036854775807:= by omega
   simp only [if_pos c1]
   refine ev_eq (ev_const _) ?_
   simp [place,e,quo]
  ·simp only [if_neg e]
   refine ev_eq (ih (j + 1) (by omega)) ?_
   have e':¬ v = ns[j]:= fun h => e h.symm
   simp only [place,if_neg e,List.mem_cons,e',false_or]
   rw [show j + 1 + place (ns.drop (j + 1)) v = j + (place (ns.drop (j + 1)) v + 1) by omega]
theorem spec_show (t:List S55) (T:Ty):∀ i,Reads t i T -> ∀ ns:List Int,ns.length + sz T <= 1000 -> Ev (fun k => spec_l8Show.f k t (i:Int) ns) (txt T ns):= by
 induction T with
 | free v =>
  intro i hr ns hs
  obtain ⟨j,h2,h3,hj,hb⟩:= reads_root hr
  have c:(j:Int) < (t.length:Int):= by omega
  have c0:0 <= (j:Int):= Int.natCast_nonneg j
  apply ev_step
  simp only [spec_l8Show.f]
  refine ev_bind (find_root t i j h2) ?_
  simp only [if_pos c,if_pos c0,rdT_get t j hj]
  cases h3 with
  | free _ _ h4 _ =>
   simp only [if_pos h4]
   have:= spec_name (v:Int) ns (by simp only [sz] at hs; omega) ns.length 0 (by omega)
   rw [List.drop_zero,Nat.zero_add] at this
   exact this
  | bound _ _ _ h4 _ => exact absurd h4 hb
 | int =>
  intro i hr ns hs
  obtain ⟨j,h2,h3,hj,hb⟩:= reads_root hr
  have c:(j:Int) < (t.length:Int):= by omega
  have c0:0 <= (j:Int):= Int.natCast_nonneg j
  apply ev_step
  simp only [spec_l8Show.f]
  refine ev_bind (find_root t i j h2) ?_
  simp only [if_pos c,if_pos c0,rdT_get t j hj]
  cases h3 with
  | int _ _ h4 =>
   have hn:¬ t[j].f0 = 0:= by omega
   simp only [if_neg hn,if_pos h4]
   exact ev_const _
  | bound _ _ _ h4 _ => exact absurd h4 hb
 | two kk a b iha ihb =>
  intro i hr ns hs
  obtain ⟨j,h2,h3,hj,hb⟩:= reads_root hr
  have c:(j:Int) < (t.length:Int):= by omega
  have c0:0 <= (j:Int):= Int.natCast_nonneg j
  apply ev_step
  simp only [spec_l8Show.f]
  refine ev_bind (find_root t i j h2) ?_
  simp only [if_pos c,if_pos c0,rdT_get t j hj]
  generalize hK:Ty.two kk a b = K at h3
  cases h3 with
  | two _ _ a' b' h4 g1 g2 ha hbb =>
   injection hK with e1 e2 e3
   subst e2 e3
   simp only [sz] at hs
   have l0:= txt_len a ns
   have s1:= txt_size a ns (by omega)
   have s2:= txt_size b (txt a ns).2 (by omega)
   have q1:= iha _ ha ns (by omega)
   rw [show ((t[j].f1.toNat:Nat):Int) = t[j].f1 by omega] at q1
   have q2:= ihb _ hbb (txt a ns).2 (by omega)
   rw [show ((t[j].f2.toNat:Nat):Int) = t[j].f2 by omega] at q2
   have n0:¬ t[j].f0 = 0:= by omega
   have n1:¬ t[j].f0 = 1:= by omega
   have n4:¬ t[j].f0 = 4:= by omega
   have n5:(t[j].f0 == 5) = false:= beq_eq_false_iff_ne.2 (by omega)
   simp only [if_neg n0,if_neg n1,if_neg n4,n5]
   apply ev_step
   simp only [spec_l8Show.j1,Bool.false_eq_true,if_false,if_pos c,if_pos c0,rdT_get t j hj]
   refine ev_bind q1 (ev_bind q2 ?_)
   simp only [txt,e1]
   by_cases k2:t[j].f0 = 2
   ·simp only [if_pos k2]
    rw [if_pos (show _ from by omega),if_pos (show _ from by simp only [ByteArray.size_append,z1]; omega),if_pos (show _ from by simp only [ByteArray.size_append,z1,z4]; omega),if_pos (show _ from by simp only [ByteArray.size_append,z1,z4]; omega)]
    exact ev_const _
   ·simp only [if_neg k2]
    rw [if_pos (show _ from by omega),if_pos (show _ from by simp only [ByteArray.size_append,z1]; omega),if_pos (show _ from by simp only [ByteArray.size_append,z1,z5]; omega),if_pos (show _ from by simp only [ByteArray.size_append,z1,z5]; omega)]
    exact ev_const _
  | bound _ _ _ h4 _ => exact absurd h4 hb
  | free _ _ _ _ => cases hK
  | int _ _ _ => cases hK
  | one _ _ _ _ _ _ => cases hK
 | one kk a iha =>
  intro i hr ns hs
  obtain ⟨j,h2,h3,hj,hb⟩:= reads_root hr
  have c:(j:Int) < (t.length:Int):= by omega
  have c0:0 <= (j:Int):= Int.natCast_nonneg j
  apply ev_step
  simp only [spec_l8Show.f]
  refine ev_bind (find_root t i j h2) ?_
  simp only [if_pos c,if_pos c0,rdT_get t j hj]
  generalize hK:Ty.one kk a = K at h3
  cases h3 with
  | one _ _ a' h4 g1 ha =>
   injection hK with e1 e2
   subst e2
   simp only [sz] at hs
   have s1:= txt_size a ns (by omega)
   have q1:= iha _ ha ns (by omega)
   rw [show ((t[j].f1.toNat:Nat):Int) = t[j].f1 by omega] at q1
   have n0:¬ t[j].f0 = 0:= by omega
   have n1:¬ t[j].f0 = 1:= by omega
   have go:Ev (fun k => spec_l8Show.j1 k t (j:Int) ns true) (txt (.one kk a) ns):= by
    apply ev_step
    simp only [spec_l8Show.j1,if_true,if_pos c,if_pos c0,rdT_get t j hj]
    refine ev_bind q1 ?_
    simp only [txt,e1]
    by_cases k2:t[j].f0 = 5
    ·simp only [if_pos k2]
     rw [if_pos (show _ from by omega),if_pos (show _ from by simp only [ByteArray.size_append,z6]; omega)]
     exact ev_const _
    ·simp only [if_neg k2]
     rw [if_pos (show _ from by omega),if_pos (show _ from by simp only [ByteArray.size_append,z7]; omega)]
     exact ev_const _
   simp only [if_neg n0,if_neg n1]
   rw [e1] at go
   by_cases k4:t[j].f0 = 4
   ·simp only [if_pos k4]
    rw [beq_iff_eq.2 k4]
    exact go
   ·have k5:(t[j].f0 == 5) = true:= beq_iff_eq.2 (by omega)
    simp only [if_neg k4,k5]
    exact go
  | bound _ _ _ h4 _ => exact absurd h4 hb
  | free _ _ _ _ => cases hK
  | int _ _ _ => cases hK
  | two _ _ _ _ _ _ _ _ _ => cases hK
theorem sin_one {t:List S55} {v x:Int} {r:Bool} (h:Ev (fun k => spec_l8In.f k t v x) r):Ev (fun k => spec_l8In.l0 k t v [x] 0) r:= by
 have c:(0:Int) < (([x]:List Int).length:Int):= by simp
 have z:(0:Int) <= 0:= by omega
 apply ev_step
 simp only [spec_l8In.l0,if_pos c,if_pos z]
 refine ev_bind h ?_
 cases r
 ·simp only [Bool.false_eq_true,if_false]
  have c1:¬ (1:Int) < (([x]:List Int).length:Int):= by simp
  rw [wrap_one]
  apply ev_step
  simp only [spec_l8In.l0,if_neg c1]
  exact ev_const _
 ·simp only [if_true]
  exact ev_const _
theorem sin_two {t:List S55} {v x y:Int} {r s:Bool} (h:Ev (fun k => spec_l8In.f k t v x) r) (g:Ev (fun k => spec_l8In.f k t v y) s):Ev (fun k => spec_l8In.l0 k t v [x,y] 0) (r || s):= by
 have c:(0:Int) < (([x,y]:List Int).length:Int):= by simp
 have z:(0:Int) <= 0:= by omega
 apply ev_step
 simp only [spec_l8In.l0,if_pos c,if_pos z]
 refine ev_bind h ?_
 cases r
 ·simp only [Bool.false_eq_true,if_false,Bool.false_or]
  have c1:(1:Int) < (([x,y]:List Int).length:Int):= by simp
  have z1:(0:Int) <= 1:= by omega
  rw [wrap_one]
  apply ev_step
  simp only [spec_l8In.l0,if_pos c1,if_pos z1]
  refine ev_bind g ?_
  cases s
  ·simp only [Bool.false_eq_true,if_false]
   have c2:¬ (2:Int) < (([x,y]:List Int).length:Int):= by simp
   rw [wrap_two]
   apply ev_step
   simp only [spec_l8In.l0,if_neg c2]
   exact ev_const _
  ·simp only [if_true]
   exact ev_const _
 ·simp only [if_true,Bool.true_or]
  exact ev_const _
theorem sin_nil {t:List S55} {v:Int}:Ev (fun k => spec_l8In.l0 k t v [] 0) false:= by
 have c:¬ (0:Int) < (([]:List Int).length:Int):= by simp
 apply ev_step
 simp only [spec_l8In.l0,if_neg c]
 exact ev_const _
theorem occ_spec (t:List S55) (v:Nat) (hv:v < t.length) (f0:t[v].f0 = 0) (f1:t[v].f1 < 0) (T:Ty):∀ i,Reads t i T -> Ev (fun k => spec_l8In.f k t (v:Int) (i:Int)) (occ v T):= by
 induction T with
 | free u =>
  intro i hr
  obtain ⟨j,h2,h3,hj,hb⟩:= reads_root hr
  obtain ⟨rfl,g0,g1⟩:= root_free hj hb h3
  have c:(u:Int) < (t.length:Int):= by omega
  have c0:0 <= (u:Int):= Int.natCast_nonneg u
  apply ev_step
  simp only [spec_l8In.f]
  refine ev_bind (find_root t i u h2) ?_
  by_cases e:u = v
  ·subst e
   simp only [if_true,occ,decide_true]
   exact ev_const _
  ·have e':¬ (u:Int) = (v:Int):= by omega
   simp only [if_neg e',occ,decide_eq_false e,if_pos c,if_pos c0,rdT_get t u hj,if_pos g0]
   exact ev_const _
 | int =>
  intro i hr
  obtain ⟨j,h2,h3,hj,hb⟩:= reads_root hr
  have k1:= root_int hj hb h3
  have c:(j:Int) < (t.length:Int):= by omega
  have c0:0 <= (j:Int):= Int.natCast_nonneg j
  have n0:¬ t[j].f0 = 0:= by omega
  have ne:¬ (j:Int) = (v:Int):= by
   intro e
   obtain rfl:j = v:= by omega
   omega
  apply ev_step
  simp only [spec_l8In.f]
  refine ev_bind (find_root t i j h2) ?_
  simp only [if_neg ne,if_pos c,if_pos c0,rdT_get t j hj,if_neg n0]
  refine ev_bind (spec_kids t[j]) ?_
  have hk:kids t[j] = []:= by unfold kids; simp [k1]
  rw [hk]
  exact sin_nil
 | two k a b iha ihb =>
  intro i hr
  obtain ⟨j,h2,h3,hj,hb⟩:= reads_root hr
  obtain ⟨k1,kk,g1,g2,ha,hbb⟩:= root_two hj hb h3
  have c:(j:Int) < (t.length:Int):= by omega
  have c0:0 <= (j:Int):= Int.natCast_nonneg j
  have n0:¬ t[j].f0 = 0:= by omega
  have ne:¬ (j:Int) = (v:Int):= by
   intro e
   obtain rfl:j = v:= by omega
   omega
  have qa:= iha _ ha
  rw [show ((t[j].f1.toNat:Nat):Int) = t[j].f1 by omega] at qa
  have qb:= ihb _ hbb
  rw [show ((t[j].f2.toNat:Nat):Int) = t[j].f2 by omega] at qb
  apply ev_step
  simp only [spec_l8In.f]
  refine ev_bind (find_root t i j h2) ?_
  simp only [if_neg ne,if_pos c,if_pos c0,rdT_get t j hj,if_neg n0]
  refine ev_bind (spec_kids t[j]) ?_
  have hk:kids t[j] = [t[j].f1,t[j].f2]:= by unfold kids; rw [<- k1] at kk; rcases kk with h | h <;> simp [h]
  rw [hk]
  exact sin_two qa qb
 | one k a iha =>
  intro i hr
  obtain ⟨j,h2,h3,hj,hb⟩:= reads_root hr
  obtain ⟨k1,kk,g1,ha⟩:= root_one hj hb h3
  have c:(j:Int) < (t.length:Int):= by omega
  have c0:0 <= (j:Int):= Int.natCast_nonneg j
  have n0:¬ t[j].f0 = 0:= by omega
  have ne:¬ (j:Int) = (v:Int):= by
   intro e
   obtain rfl:j = v:= by omega
   omega
  have qa:= iha _ ha
  rw [show ((t[j].f1.toNat:Nat):Int) = t[j].f1 by omega] at qa
  apply ev_step
  simp only [spec_l8In.f]
  refine ev_bind (find_root t i j h2) ?_
  simp only [if_neg ne,if_pos c,if_pos c0,rdT_get t j hj,if_neg n0]
  refine ev_bind (spec_kids t[j]) ?_
  have hk:kids t[j] = [t[j].f1]:= by unfold kids; rw [<- k1] at kk; rcases kk with h | h <;> simp [h]
  rw [hk]
  exact sin_one qa
theorem slst_nil {t:List S55}:Ev (fun k => spec_l8Unify.l0 k t [] [] 0) (true,t):= by
 have c:¬ (0:Int) < (([]:List Int).length:Int):= by simp
 apply ev_step
 simp only [spec_l8Unify.l0,if_neg c]
 exact ev_const _
theorem slst_one {t t':List S55} {x y:Int} {r:Bool} (h:Ev (fun k => spec_l8Unify.f k t x y) (r,t')):Ev (fun k => spec_l8Unify.l0 k t [x] [y] 0) (r,t'):= by
 have c:(0:Int) < (([x]:List Int).length:Int):= by simp
 have d:(0:Int) < (([y]:List Int).length:Int):= by simp
 have z:(0:Int) <= 0:= by omega
 apply ev_step
 simp only [spec_l8Unify.l0,if_pos c,if_pos z,if_pos d]
 refine ev_bind h ?_
 cases r
 ·simp only [Bool.false_eq_true,if_false]
  exact ev_const _
 ·simp only [if_true]
  have c1:¬ (1:Int) < (([x]:List Int).length:Int):= by simp
  rw [wrap_one]
  apply ev_step
  simp only [spec_l8Unify.l0,if_neg c1]
  exact ev_const _
theorem slst_no {t t':List S55} {x y x2 y2:Int} (h:Ev (fun k => spec_l8Unify.f k t x y) (false,t')):Ev (fun k => spec_l8Unify.l0 k t [x,x2] [y,y2] 0) (false,t'):= by
 have c:(0:Int) < (([x,x2]:List Int).length:Int):= by simp
 have d:(0:Int) < (([y,y2]:List Int).length:Int):= by simp
 have z:(0:Int) <= 0:= by omega
 apply ev_step
 simp only [spec_l8Unify.l0,if_pos c,if_pos z,if_pos d]
 refine ev_bind h ?_
 simp only [Bool.false_eq_true,if_false]
 exact ev_const _
theorem slst_two {t t1 t':List S55} {x y x2 y2:Int} {r:Bool} (h:Ev (fun k => spec_l8Unify.f k t x y) (true,t1)) (g:Ev (fun k => spec_l8Unify.f k t1 x2 y2) (r,t')):Ev (fun k => spec_l8Unify.l0 k t [x,x2] [y,y2] 0) (r,t'):= by
 have c:(0:Int) < (([x,x2]:List Int).length:Int):= by simp
 have d:(0:Int) < (([y,y2]:List Int).length:Int):= by simp
 have z:(0:Int) <= 0:= by omega
 apply ev_step
 simp only [spec_l8Unify.l0,if_pos c,if_pos z,if_pos d]
 refine ev_bind h ?_
 simp only [if_true]
 have c1:(1:Int) < (([x,x2]:List Int).length:Int):= by simp
 have d1:(1:Int) < (([y,y2]:List Int).length:Int):= by simp
 have z1:(0:Int) <= 1:= by omega
 rw [wrap_one]
 apply ev_step
 simp only [spec_l8Unify.l0,if_pos c1,if_pos z1,if_pos d1]
 refine ev_bind g ?_
 cases r
 ·simp only [Bool.false_eq_true,if_false]
  exact ev_const _
 ·simp only [if_true]
  have c2:¬ (2:Int) < (([x,x2]:List Int).length:Int):= by simp
  rw [wrap_two]
  apply ev_step
  simp only [spec_l8Unify.l0,if_neg c2]
  exact ev_const _
theorem ref_head {t t':List S55} {a b ra rb:Nat} {A B:Ty} {r:Bool} (h:Top false t a b ra rb A B)
  (g:Ev (fun k => if (t[ra]'h.ha).f0 = 0 then ((spec_l8In.f k t (ra:Int) (rb:Int)).bind fun s => (if s = true then (some (false,t)) else (some (true,(t.set ra (⟨(t[ra]'h.ha).f0,(rb:Int),(t[ra]'h.ha).f2⟩:S55)))))) else (if (t[rb]'h.hb).f0 = 0 then ((spec_l8Unify.f k t (rb:Int) (ra:Int)).bind fun bt => (some (bt.1,bt.2))) else (if (t[ra]'h.ha).f0 = (t[rb]'h.hb).f0 then ((spec_l8Kids.f k (t[ra]'h.ha).f0 (t[ra]'h.ha).f1 (t[ra]'h.ha).f2).bind fun p => ((spec_l8Kids.f k (t[rb]'h.hb).f0 (t[rb]'h.hb).f1 (t[rb]'h.hb).f2).bind fun q => (spec_l8Unify.l0 k t p q 0))) else (some (false,t))))) (r,t')) :
  Ev (fun k => spec_l8Unify.f k t (a:Int) (b:Int)) (r,t'):= by
 have ne:¬ (ra:Int) = (rb:Int):= fun e => h.ne (by omega)
 have ha:= h.ha
 have hb:= h.hb
 have c:(ra:Int) < (t.length:Int):= by omega
 have c0:0 <= (ra:Int):= Int.natCast_nonneg ra
 have d:(rb:Int) < (t.length:Int):= by omega
 have d0:0 <= (rb:Int):= Int.natCast_nonneg rb
 apply ev_step
 simp only [spec_l8Unify.f]
 refine ev_bind (find_root t a ra h.r1) (ev_bind (find_root t b rb h.r2) ?_)
 simp only [if_neg ne,if_pos c,if_pos c0,if_pos d,if_pos d0,rdT_get t ra h.ha,rdT_get t rb h.hb,Int.toNat_natCast]
 exact g
theorem uni_spec {t t':List S55} {a b:Nat} {r:Bool} (h:Uni false t a b r t'):Ev (fun k => spec_l8Unify.f k t (a:Int) (b:Int)) (r,t'):= by
 induction h with
 | eq r1 r2 =>
  apply ev_step
  simp only [spec_l8Unify.f]
  refine ev_bind (find_root _ _ _ r1) (ev_bind (find_root _ _ _ r2) ?_)
  simp only [if_true]
  exact ev_const _
 | big hl => cases hl
 | @occ t a b ra rb A B h f0 ho =>
  have f1:(t[ra]'h.ha).f1 < 0:= by
   have:= h.b1
   unfold Bound at this
   omega
  refine ref_head h ?_
  simp only [if_pos f0]
  refine ev_bind (occ_spec t ra h.ha f0 f1 B rb h.h2) ?_
  simp only [ho,if_true]
  exact ev_const _
 | @bind t a b ra rb A B h f0 ho =>
  have f1:(t[ra]'h.ha).f1 < 0:= by
   have:= h.b1
   unfold Bound at this
   omega
  refine ref_head h ?_
  simp only [if_pos f0]
  refine ev_bind (occ_spec t ra h.ha f0 f1 B rb h.h2) ?_
  simp only [ho,Bool.false_eq_true,if_false,f0]
  exact ev_const _
 | @swap t t' a b ra rb A B r h n0 f0 _ ih =>
  refine ref_head h ?_
  simp only [if_neg n0,if_pos f0]
  exact ev_bind ih (ev_const _)
 | @kind t a b ra rb A B h n0 m0 nk =>
  refine ref_head h ?_
  simp only [if_neg n0,if_neg m0,if_neg nk]
  exact ev_const _
 | @int t a b ra rb A B h k1 k2 =>
  have n0:¬ (t[ra]'h.ha).f0 = 0:= by omega
  have m0:¬ (t[rb]'h.hb).f0 = 0:= by omega
  have ek:(t[ra]'h.ha).f0 = (t[rb]'h.hb).f0:= by omega
  refine ref_head h ?_
  simp only [if_neg n0,if_neg m0,if_pos ek]
  refine ev_bind (spec_kids _) (ev_bind (spec_kids _) ?_)
  have e1:kids (t[ra]'h.ha) = []:= by unfold kids; simp [k1]
  have e2:kids (t[rb]'h.hb) = []:= by unfold kids; simp [k2]
  rw [e1,e2]
  exact slst_nil
 | @one t t' a b ra rb A B r h kk k2 g1 g2 _ ih =>
  have n0:¬ (t[ra]'h.ha).f0 = 0:= by omega
  have m0:¬ (t[rb]'h.hb).f0 = 0:= by omega
  refine ref_head h ?_
  simp only [if_neg n0,if_neg m0,if_pos k2.symm]
  refine ev_bind (spec_kids _) (ev_bind (spec_kids _) ?_)
  have e1:kids (t[ra]'h.ha) = [(t[ra]'h.ha).f1]:= by unfold kids; rcases kk with q | q <;> simp [q]
  have e2:kids (t[rb]'h.hb) = [(t[rb]'h.hb).f1]:= by unfold kids; rw [k2]; rcases kk with q | q <;> simp [q]
  rw [show (((t[ra]'h.ha).f1.toNat:Nat):Int) = (t[ra]'h.ha).f1 by omega,show (((t[rb]'h.hb).f1.toNat:Nat):Int) = (t[rb]'h.hb).f1 by omega] at ih
  rw [e1,e2]
  exact slst_one ih
 | @no t t' a b ra rb A B h kk k2 g1 g2 _ ih =>
  have n0:¬ (t[ra]'h.ha).f0 = 0:= by omega
  have m0:¬ (t[rb]'h.hb).f0 = 0:= by omega
  refine ref_head h ?_
  simp only [if_neg n0,if_neg m0,if_pos k2.symm]
  refine ev_bind (spec_kids _) (ev_bind (spec_kids _) ?_)
  have e1:kids (t[ra]'h.ha) = [(t[ra]'h.ha).f1,(t[ra]'h.ha).f2]:= by unfold kids; rcases kk with q | q <;> simp [q]
  have e2:kids (t[rb]'h.hb) = [(t[rb]'h.hb).f1,(t[rb]'h.hb).f2]:= by unfold kids; rw [k2]; rcases kk with q | q <;> simp [q]
  rw [show (((t[ra]'h.ha).f1.toNat:Nat):Int) = (t[ra]'h.ha).f1 by omega,show (((t[rb]'h.hb).f1.toNat:Nat):Int) = (t[rb]'h.hb).f1 by omega] at ih
  rw [e1,e2]
  exact slst_no ih
 | @two t t1 t' a b ra rb A B r h kk k2 g1 g2 g3 g4 _ _ ih ih2 =>
  have n0:¬ (t[ra]'h.ha).f0 = 0:= by omega
  have m0:¬ (t[rb]'h.hb).f0 = 0:= by omega
  refine ref_head h ?_
  simp only [if_neg n0,if_neg m0,if_pos k2.symm]
  refine ev_bind (spec_kids _) (ev_bind (spec_kids _) ?_)
  have e1:kids (t[ra]'h.ha) = [(t[ra]'h.ha).f1,(t[ra]'h.ha).f2]:= by unfold kids; rcases kk with q | q <;> simp [q]
  have e2:kids (t[rb]'h.hb) = [(t[rb]'h.hb).f1,(t[rb]'h.hb).f2]:= by unfold kids; rw [k2]; rcases kk with q | q <;> simp [q]
  rw [show (((t[ra]'h.ha).f1.toNat:Nat):Int) = (t[ra]'h.ha).f1 by omega,show (((t[rb]'h.hb).f1.toNat:Nat):Int) = (t[rb]'h.hb).f1 by omega] at ih
  rw [show (((t[ra]'h.ha).f2.toNat:Nat):Int) = (t[ra]'h.ha).f2 by omega,show (((t[rb]'h.hb).f2.toNat:Nat):Int) = (t[rb]'h.hb).f2 by omega] at ih2
  rw [e1,e2]
  exact slst_two ih ih2
theorem unified_spec (t:List S55) (hn:t.length <= 1048576) (a b:Int):∃ x,Ev (fun k => spec_Unified.f k t a b) x /\ (((Foul t a \/ Foul t b) /\ x = ((⟨#[]⟩:ByteArray),false)) \/ Fair t a b x):= by
 obtain ⟨ra,ea,_,ha⟩:= size_cases t hn a
 obtain ⟨rb,eb,_,hb⟩:= size_cases t hn b
 unfold spec_Unified.f
 have jt:Ev (fun k => spec_Unified.j0 k t a b true) ((⟨#[]⟩:ByteArray),false):= by
  apply ev_step
  simp only [spec_Unified.j0,if_true]
  exact ev_const _
 rcases ha with ⟨na,fa⟩ | ⟨ga,ht,a0,a1,A,hA,sA⟩
 ·refine ⟨_,ev_bind ea ?_,.inl ⟨.inl fa,rfl⟩⟩
  rw [in_some]
  simp only [Option.bind_some,decide_eq_false na,Bool.false_eq_true,if_false]
  exact jt
 ·rcases hb with ⟨nb,fb⟩ | ⟨gb,_,b0,b1,B,hB,sB⟩
  ·refine ⟨_,ev_bind ea ?_,.inl ⟨.inr fb,rfl⟩⟩
   rw [in_some]
   simp only [Option.bind_some,decide_eq_true ga,if_true]
   refine ev_bind eb ?_
   rw [in_some]
   simp only [Option.bind_some,decide_eq_false nb,Bool.not_false]
   exact jt
  ·have ll:([]:List S55).length + t.length < 5864062014805:= by simp; omega
   have ia:((a.toNat:Nat):Int) = a:= by omega
   have ib:((b.toNat:Nat):Int) = b:= by omega
   obtain ⟨r,t',u,o⟩:= uni_all false (nfree t) (sz A + sz B) t a.toNat b.toNat A B (Nat.le_refl _) (Nat.le_refl _) hA hB
   have ev:= uni_spec u
   rw [ia,ib] at ev
   obtain ⟨q1,q2⟩:= ans_out o hA
   have start:∀ x:ByteArray × Bool,Ev (fun k => if r = true then ((spec_l8Size.f k t' a 60).bind fun z => (if z > 60 then (some ((⟨#[]⟩:ByteArray),false)) else ((spec_l8Show.f k t' a (([]:List Int))).bind fun s => (some (s.1,true))))) else (some ((⟨#[]⟩:ByteArray),false))) x -> Ev (fun k => (spec_SizeOf.f k t a).bind fun t306 => ((spec_l1In.f t306 1 60).bind fun t307 => (if t307 = true then ((spec_SizeOf.f k t b).bind fun t308 => ((spec_l1In.f t308 1 60).bind fun t309 => (spec_Unified.j0 k t a b (!t309)))) else (spec_Unified.j0 k t a b true)))) x:= by
    intro x hx
    refine ev_bind ea ?_
    rw [in_some]
    simp only [Option.bind_some,decide_eq_true ga,if_true]
    refine ev_bind eb ?_
    rw [in_some]
    simp only [Option.bind_some,decide_eq_true gb,Bool.not_true]
    apply ev_step
    simp only [spec_Unified.j0,Bool.false_eq_true,if_false,Option.bind_some,if_pos ll,List.nil_append]
    exact ev_bind ev hx
   cases r with
   | false =>
    refine ⟨_,start _ ?_,.inr ⟨ht,a0,a1,b0,b1,A,B,hA,hB,sA,sB,q2 rfl⟩⟩
    simp only [Bool.false_eq_true,if_false]
    exact ev_const _
   | true =>
    obtain ⟨T,hT,p1,p2⟩:= q1 rfl
    have es:= spec_size t' T a.toNat hT 60 (by omega) (by omega)
    rw [ia] at es
    by_cases c:sz T <= 60
    ·have l1:¬ least (sz T) 60 > 60:= by unfold least; split <;> omega
     have sh:= spec_show t' T a.toNat hT [] (by simp; omega)
     rw [ia] at sh
     refine ⟨_,start _ ?_,.inr ⟨ht,a0,a1,b0,b1,A,B,hA,hB,sA,sB,p1 c⟩⟩
     simp only [if_true]
     refine ev_bind es ?_
     simp only [if_neg l1]
     exact ev_bind sh (ev_const _)
    ·have l1:least (sz T) 60 > 60:= by unfold least; split <;> omega
     refine ⟨_,start _ ?_,.inr ⟨ht,a0,a1,b0,b1,A,B,hA,hB,sA,sB,p2 (by omega)⟩⟩
     simp only [if_true]
     refine ev_bind es ?_
     simp only [if_pos l1]
     exact ev_const _
theorem foul_fair {t:List S55} {a b:Int} {x:ByteArray × Bool} (h:Foul t a \/ Foul t b) (g:Fair t a b x):False:= by
 obtain ⟨ht,a0,a1,b0,b1,A,B,hA,hB,sA,sB,_⟩:= g
 rcases h with h | h
 ·rcases h with h | ⟨A',hA',s⟩
  ·exact h ⟨ht,a0,a1⟩
  ·rw [reads_det hA' _ hA] at s
   omega
 ·rcases h with h | ⟨A',hA',s⟩
  ·exact h ⟨ht,b0,b1⟩
  ·rw [reads_det hA' _ hB] at s
   omega
theorem fair_one {t:List S55} {a b:Int} {x y:ByteArray × Bool} (h:Fair t a b x) (g:Fair t a b y):x = y:= by
 obtain ⟨_,_,_,_,_,A,B,hA,hB,_,_,h⟩:= h
 obtain ⟨_,_,_,_,_,A',B',hA',hB',_,_,g⟩:= g
 obtain rfl:= reads_det hA _ hA'
 obtain rfl:= reads_det hB _ hB'
 exact ans_unique h g
theorem either_one {t:List S55} {a b:Int} {x y:ByteArray × Bool} (h:((Foul t a \/ Foul t b) /\ x = ((⟨#[]⟩:ByteArray),false)) \/ Fair t a b x) (g:((Foul t a \/ Foul t b) /\ y = ((⟨#[]⟩:ByteArray),false)) \/ Fair t a b y):x = y:= by
 rcases h with ⟨f,rfl⟩ | h
 ·rcases g with ⟨_,rfl⟩ | g
  ·rfl
  ·exact (foul_fair f g).elim
 ·rcases g with ⟨f,rfl⟩ | g
  ·exact (foul_fair f h).elim
  ·exact fair_one h g
theorem FnExactUnified:Pure:= by
 intro l a b ⟨hl,_⟩ _ _
 refine Ev.rounds ?_
 unfold laws_FnExactUnified.f
 obtain ⟨r,h1,h2⟩:= sz_types l hl
 rw [h1]; simp only [Option.bind_some]
 by_cases z:r < 0
 ·simp only [if_pos z]
  exact ev_const true
 ·have hn:= h2 (by omega)
  have hn':(l.map cType).length <= 1048576:= by simpa using hn
  obtain ⟨x,e1,f1⟩:= unified_spec (l.map cType) hn' a b
  obtain ⟨y,e2,f2⟩:= unified_impl (l.map cType) hn' a b
  obtain rfl:= either_one f1 f2
  simp only [if_neg z]
  refine ev_bind (ev_toTypes l hn) (ev_bind e1 (ev_bind (ev_toTypes l hn) (ev_bind e2 ?_)))
  simp only [if_true,bne_self_eq_false]
  apply ev_step
  simp only [laws_FnExactUnified.j0,Bool.false_eq_true,if_false]
  refine ev_bind (ev_toTypes l hn) (ev_bind (ev_eqTypes _ hn') ?_)
  simp only [if_true]
  exact ev_const true
end Go.Proofs.YtlhofeikcaejpaaDoor.Pure

