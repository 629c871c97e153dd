/- PureFnExactKids, of the words and walks that the law FnExactKids needs; made by this session's program out of printed texts. -/

import Derived.Test.YtlhofeikcaejpaaVEKidsSay
import Derived.Laws.Strings
import Derived.Laws.BitsLemmas
set_option linter.unusedVariables false
set_option linter.unusedSimpArgs false
namespace Go.Proofs.Ytlhofeikcaejpaa.Pure
open Go.RowKit Go.Proofs.Ytlhofeikcaejpaa.PFnExactKids Go.Proofs.YtlhofeikcaejpaaW.PrintWords Go.Proofs.YtlhofeikcaejpaaW.PrintLast Go.Proofs.Ytlhofeikcaejpaa.SayFnExactKids
theorem wrap_next (i:Nat) (h:i < 4611686018427387904):wrap64 ((i:Int) + 1) = ((i + 1:Nat):Int):= by unfold wrap64; omega
theorem ev_step {α:Type} {g:Nat -> Option α} {r:α} (h:Ev (fun k => g (k + 1)) r):Ev g r:= Ev.step (fun _ => rfl) h
theorem ev_bind {α β:Type} {g:Nat -> Option α} {f:Nat -> α -> Option β} {a:α} {r:β} (h:Ev g a) (k:Ev (fun n => f n a) r):Ev (fun n => (g n).bind (f n)) r:= Ev.bind h k
theorem ev_const {α:Type} (r:α):Ev (fun _ => some r) r:= Ev.now r
theorem ev_eq {α:Type} {g:Nat -> Option α} {r q:α} (h:Ev g r) (e:r = q):Ev g q:= e ▸ h
theorem rdI_at (done:List Int) (r:Int) (rest:List Int):rd (done ++ r :: rest) (done.length:Int) = r:= by
 unfold rd
 simp
def marksI:Nat -> Int -> List Int
 | 0,_ => []
 | n + 1,c => c :: marksI n (c + 1)
theorem mark_ints_loop:∀ (rest done:List Int) (c:Int),0 <= c -> c + rest.length <= 1000000000 -> done.length + rest.length <= 1048576 ->
  Ev (fun k => laws_markIntS.l0 k (done ++ rest) c (done.length:Int)) (c + rest.length,done ++ marksI rest.length c):= by
 intro rest
 induction rest with
 | nil =>
  intro done c h0 h1 h2
  apply ev_step
  have d:¬ (done.length:Int) < ((done ++ ([]:List Int)).length:Int):= by simp
  simp only [laws_markIntS.l0,if_neg d]
  exact ev_eq (ev_const _) (by simp [marksI])
 | cons r rest ih =>
  intro done c h0 h1 h2
  simp only [List.length_cons] at h1 h2
  apply ev_step
  have d:(done.length:Int) < ((done ++ r :: rest).length:Int):= by simp; omega
  have d0:0 <= (done.length:Int):= by omega
  have w1:wrap64 (c + 1) = c + 1:= by unfold wrap64; omega
  have e:(done ++ r :: rest).set done.length c = done ++ c :: rest:= by
   rw [List.set_append_right _ _ (Nat.le_refl _),Nat.sub_self]
   rfl
  simp only [laws_markIntS.l0,if_pos d,if_pos d0,Int.toNat_natCast,e,w1,wrap_next done.length (by omega)]
  have:= ih (done ++ [c]) (c + 1) (by omega) (by omega) (by simp; omega)
  simp only [List.append_assoc,List.singleton_append,List.length_append,List.length_singleton] at this
  refine ev_eq this ?_
  rw [List.length_cons,marksI]
  congr 1
  omega
theorem mark_ints (l:List Int) (h:l.length <= 1048576):Ev (fun k => laws_markIntS.f k l 1) (1 + (l.length:Int),marksI l.length 1):= mark_ints_loop l [] 1 (by omega) (by omega) (by simpa using h)
theorem held_ints_loop:∀ (n:Nat) (done:List Int) (c:Int),0 <= c -> c + n <= 1000000000 -> done.length + n <= 1048576 ->
  Ev (fun k => laws_heldIntS.l0 k (done ++ marksI n c) c (done.length:Int)) (c + n):= by
 intro n
 induction n with
 | zero =>
  intro done c h0 h1 h2
  apply ev_step
  have d:¬ (done.length:Int) < ((done ++ marksI 0 c).length:Int):= by simp [marksI]
  simp only [laws_heldIntS.l0,if_neg d]
  exact ev_eq (ev_const _) (by omega)
 | succ n ih =>
  intro done c h0 h1 h2
  apply ev_step
  rw [marksI]
  have d:(done.length:Int) < ((done ++ c :: marksI n (c + 1)).length:Int):= by simp; omega
  have d0:0 <= (done.length:Int):= by omega
  have w1:wrap64 (c + 1) = c + 1:= by unfold wrap64; omega
  simp only [laws_heldIntS.l0,if_pos d,if_pos d0,rdI_at,w1,wrap_next done.length (by omega),if_true]
  have:= ih (done ++ [c]) (c + 1) (by omega) (by omega) (by simp; omega)
  simp only [List.append_assoc,List.singleton_append,List.length_append,List.length_singleton] at this
  exact ev_eq this (by omega)
theorem held_ints (n:Nat) (h:n <= 1048576):Ev (fun k => laws_heldIntS.f k (marksI n 1) 1) (1 + (n:Int)):= held_ints_loop n [] 1 (by omega) (by omega) (by simpa using h)
theorem eq_ints_loop (l:List Int) (hn:l.length <= 1048576) (d:Nat):∀ k (i:Nat),i + d = l.length -> d < k -> laws_eqIntS.l0 k l l i = some true:= by
 induction d with
 | zero =>
  intro k i hd hk
  obtain ⟨k,rfl⟩:∃ m,k = m + 1:= ⟨k - 1,by omega⟩
  have c:¬ (i:Int) < (l.length:Int):= by omega
  simp only [laws_eqIntS.l0,if_neg c]
 | succ d ih =>
  intro k i hd hk
  obtain ⟨k,rfl⟩:∃ m,k = m + 1:= ⟨k - 1,by omega⟩
  have c:(i:Int) < (l.length:Int):= by omega
  have c0:0 <= (i:Int):= Int.natCast_nonneg i
  simp only [laws_eqIntS.l0,if_true,if_pos c,if_pos c0,wrap_next i (by omega)]
  exact ih k (i + 1) (by omega) (by omega)
theorem eq_ints (l:List Int) (hn:l.length <= 1048576):Ev (fun k => laws_eqIntS.f k l l) true:= by
 refine Ev.of (fun k => laws_eqIntS.mono _ _ k) (k:= l.length + 1) ?_
 unfold laws_eqIntS.f
 rw [if_pos rfl]
 exact eq_ints_loop l hn l.length _ 0 (by omega) (by omega)
theorem arity_at (a:Int) (k:Nat) (h:¬ (a = 3 \/ a = 10 \/ a = 11 \/ a = 15 \/ a = 16 \/ a = 18 \/ a = 4 \/ a = 5 \/ a = 6 \/ a = 8 \/ a = 9 \/ a = 13 \/ a = 17 \/ a = 19 \/ a = 7 \/ a = 14)):spec_Arity.f (k + 2) a = some 0:= by
 simp only [not_or] at h
 obtain ⟨h1,h2,h3,h4,h5,h6,h7,h8,h9,h10,h11,h12,h13,h14,h15,h16⟩:= h
 simp [spec_Arity.f,spec_Arity.j0,spec_Arity.j1,h1,h2,h3,h4,h5,h6,h7,h8,h9,h10,h11,h12,h13,h14,h15,h16]
theorem arity_both (a:Int) (k:Nat):∃ r:Int,spec_Arity.f (k + 2) a = some r /\ impl_Arity.f (k + 2) a = some r /\ 0 <= r /\ r <= 3:= by
 have e:impl_Arity.f (k + 2) a = spec_Arity.f (k + 2) a:= by
  simp only [spec_Arity.f,impl_Arity.f,spec_Arity.j0,spec_Arity.j1,impl_Arity.j0,impl_Arity.j1]
 have h:∃ r,spec_Arity.f (k + 2) a = some r /\ 0 <= r /\ r <= 3:= by
  by_cases h:a = 3 \/ a = 10 \/ a = 11 \/ a = 15 \/ a = 16 \/ a = 18 \/ a = 4 \/ a = 5 \/ a = 6 \/ a = 8 \/ a = 9 \/ a = 13 \/ a = 17 \/ a = 19 \/ a = 7 \/ a = 14
  ·rcases h with rfl | rfl | rfl | rfl | rfl | rfl | rfl | rfl | rfl | rfl | rfl | rfl | rfl | rfl | rfl | rfl <;> exact ⟨_,rfl,by decide,by decide⟩
  ·exact ⟨_,arity_at a k h,by decide,by decide⟩
 obtain ⟨r,hr,h0,h1⟩:= h
 exact ⟨r,hr,e.trans hr,h0,h1⟩
theorem kids_both (a b c d e:Int) (s t:ByteArray):∃ l,Ev (fun k => spec_Kids.f k a b c d e s t) l /\ Ev (fun k => impl_Kids.f k a b c d e s t) l /\ l.length <= 3:= by
 obtain ⟨r,h1,h2,h3,h4⟩:= arity_both a 0
 have e1:Ev (fun k => spec_Arity.f k a) r:= Ev.of (fun k => spec_Arity.mono _ k) h1
 have e2:Ev (fun k => impl_Arity.f k a) r:= Ev.of (fun k => impl_Arity.mono _ k) h2
 have c0:r <= (([b,c,d]:List Int).length:Int):= h4
 refine ⟨([b,c,d]:List Int).take r.toNat,?_,?_,by rw [List.length_take]; simp; omega⟩
 ·unfold spec_Kids.f
  simp only [Option.bind_some]
  refine ev_bind e1 ?_
  simp only [if_pos h3,if_pos c0]
  exact ev_const _
 ·unfold impl_Kids.f
  simp only [Option.bind_some]
  refine ev_bind e2 (ev_bind e2 ?_)
  simp only [if_pos h3,if_pos c0,if_pos (Int.le_refl r)]
  exact ev_const _
theorem sz_node (a b c d e:Int) (s t:ByteArray):∃ r,laws_szNode.f a b c d e s t 1048576 = some r:= by
 unfold laws_szNode.f
 split
 ·exact ⟨_,rfl⟩
 ·split
  ·exact ⟨_,rfl⟩
  ·exact ⟨_,rfl⟩
theorem FnExactKids:Pure:= by
 intro a b c d e s t _ _ _ _ _ _ _
 refine Ev.rounds ?_
 unfold laws_FnExactKids.f
 obtain ⟨r,h1⟩:= sz_node a b c d e s t
 simp only [h1,Option.bind_some]
 by_cases z:r < 0
 ·simp only [if_pos z]; exact ev_const _
 ·simp only [if_neg z,laws_toNode.f,Option.bind_some]
  obtain ⟨l,k1,k2,k3⟩:= kids_both a b c d e s t
  have cl:¬ 1 + (l.length:Int) < 0:= by omega
  refine ev_bind k1 (ev_bind k2 (ev_bind (eq_ints l (by omega)) ?_))
  simp only [if_true]
  refine ev_bind (mark_ints l (by omega)) (ev_bind (held_ints l.length (by omega)) ?_)
  simp only [if_neg cl,if_true]
  refine ev_bind k2 (ev_bind (eq_ints l (by omega)) ?_)
  simp only [if_true]
  refine ev_bind (held_ints l.length (by omega)) ?_
  simp only [if_neg cl,if_true]
  exact ev_const _
end Go.Proofs.Ytlhofeikcaejpaa.Pure

