/- PureFnSizes, of the words and walks that the law FnSizes needs; made by this session's program out of printed texts. -/

import Derived.Test.YtlhofeikcaejpaaDoorVFnSizesSay
import Derived.Laws.Strings
import Derived.Laws.BitsLemmas
set_option linter.unusedVariables false
set_option linter.unusedSimpArgs false
set_option linter.unusedSectionVars false
namespace Go.Proofs.YtlhofeikcaejpaaDoor.Pure
open Go.RowKit Go.Proofs.YtlhofeikcaejpaaDoor.PFnSizes Go.Proofs.YtlhofeikcaejpaaDoorW.PrintWords Go.Proofs.YtlhofeikcaejpaaDoorW.PrintLast Go.Proofs.YtlhofeikcaejpaaDoor.SayFnSizes
theorem wrap_next (i:Nat) (h:i < 4611686018427387904):wrap64 ((i:Int) + 1) = ((i + 1:Nat):Int):= by unfold wrap64; omega
theorem ev_step {α:Type} {g:Nat -> Option α} {r:α} (h:Ev (fun k => g (k + 1)) r):Ev g r:= Ev.step (fun _ => rfl) h
theorem ev_bind {α β:Type} {g:Nat -> Option α} {f:Nat -> α -> Option β} {a:α} {r:β} (h:Ev g a) (k:Ev (fun n => f n a) r):Ev (fun n => (g n).bind (f n)) r:= Ev.bind h k
theorem ev_const {α:Type} (r:α):Ev (fun _ => some r) r:= Ev.now r
theorem ev_at {α:Type} {g:Nat -> Option α} {r:α} (n:Nat) (h:∀ k,n <= k -> g k = some r):Ev g r:= ⟨n,h⟩
theorem ev_eq {α:Type} {g:Nat -> Option α} {r q:α} (h:Ev g r) (e:r = q):Ev g q:= e ▸ h
theorem and255 (n:Int):Go.bits .and .i64 n 255 = n % 256:= by
 have h:(BitVec.ofInt 64 255).toNat = 2 ^ 8 - 1:= by decide
 have key:(BitVec.ofInt 64 n &&& BitVec.ofInt 64 255).toNat = (n % ((2 ^ 64:Nat):Int)).toNat % 2 ^ 8:= by
  rw [BitVec.toNat_and,BitVec.toNat_ofInt,h,Nat.and_two_pow_sub_one_eq_mod]
 show IntKind.i64.wrap ((BitVec.ofInt 64 n &&& BitVec.ofInt 64 255).toNat:Nat) = n % 256
 rw [key,IntKind.wrap_i64]
 omega
def Cur (c:List Int) (i:Int):Prop:= 0 <= i /\ i <= c.length
theorem new_loop (c:List Int) (hc:c.length <= 1048576) (d:Nat):∀ (i:Nat) (x:Int),i + d = c.length -> ∃ h,Ev (fun k => spec_l1New.l0 k c x (i:Int)) (c,0,h):= by
 induction d with
 | zero =>
  intro i x hi
  refine ⟨x,ev_step ?_⟩
  simp only [spec_l1New.l0,if_neg (show ¬ (i:Int) < (c.length:Int) by omega)]
  exact ev_const _
 | succ d ih =>
  intro i x hi
  have h1:(i:Int) < (c.length:Int):= by omega
  have h0:0 <= (i:Int):= Int.natCast_nonneg i
  by_cases h4:(i:Int) < 4000
  ·obtain ⟨h,q⟩:= ih (i + 1) (Go.bits .and .i64 (wrap64 ((wrap64 ((wrap64 (x * 131)) + (wrap64 (rd c (i:Int))))) + 7)) 1073741823) (by omega)
   refine ⟨h,ev_step ?_⟩
   simp only [spec_l1New.l0,if_pos h1,if_pos h4,if_pos h0,wrap_next i (by omega)]
   exact q
  ·refine ⟨x,ev_step ?_⟩
   simp only [spec_l1New.l0,if_pos h1,if_neg h4]
   exact ev_const _
theorem new_ev (c:List Int) (hc:c.length <= 1048576):∃ h,Ev (fun k => spec_l1New.f k c) (c,0,h):= new_loop c hc c.length 0 _ (by omega)
theorem cur0 (c:List Int):Cur c 0:= ⟨by omega,by omega⟩
theorem byte_ok (c:List Int) (hc:c.length <= 1048576) (i h:Int) (hi:Cur c i):∃ x j g,spec_l1Byte.f c i h = some (x,j,g) /\ 0 <= x /\ x <= 255 /\ Cur c j:= by
 obtain ⟨h0,h1⟩:= hi
 unfold spec_l1Byte.f
 by_cases z:i < (c.length:Int)
 ·have w:wrap64 (i + 1) = i + 1:= by unfold wrap64; omega
  simp only [if_pos z,if_pos h0,w,and255]
  exact ⟨_,_,_,rfl,by omega,by omega,by omega,by omega⟩
 ·simp only [if_neg z,and255]
  exact ⟨_,_,_,rfl,by omega,by omega,h0,h1⟩
theorem below_ok (c:List Int) (hc:c.length <= 1048576) (i h:Int) (hi:Cur c i) (n:Int):∃ x j g,spec_l1Below.f c i h n = some (x,j,g) /\ 0 <= x /\ (0 < n -> x < n) /\ (n <= 0 -> x = 0) /\ Cur c j:= by
 unfold spec_l1Below.f
 by_cases z:n <= 0
 ·rw [if_pos z]
  exact ⟨_,_,_,rfl,by omega,fun q => by omega,fun _ => rfl,hi⟩
 ·rw [if_neg z]
  have z0:¬ n = 0:= by omega
  by_cases z2:n <= 256
  ·rw [if_pos z2]
   obtain ⟨x,j,g,e,h0,h1,h2⟩:= byte_ok c hc i h hi
   rw [e]
   simp only [Option.bind_some,if_neg z0]
   refine ⟨_,_,_,rfl,?_,fun _ => ?_,fun q => by omega,h2⟩
   ·exact Int.tmod_nonneg _ h0
   ·rw [Int.tmod_eq_emod_of_nonneg h0]; exact Int.emod_lt_of_pos _ (by omega)
  ·rw [if_neg z2]
   obtain ⟨x,j,g,e,h0,h1,h2⟩:= byte_ok c hc i h hi
   rw [e]; simp only [Option.bind_some]
   obtain ⟨x2,j2,g2,e,h02,h12,h22⟩:= byte_ok c hc j g h2
   rw [e]; simp only [Option.bind_some]
   obtain ⟨x3,j3,g3,e,h03,h13,h23⟩:= byte_ok c hc j2 g2 h22
   rw [e]; simp only [Option.bind_some]
   obtain ⟨x4,j4,g4,e,h04,h14,h24⟩:= byte_ok c hc j3 g3 h23
   rw [e]; simp only [Option.bind_some,if_neg z0]
   have w:wrap64 ((wrap64 ((wrap64 ((wrap64 (x * 16777216)) + (wrap64 (x2 * 65536)))) + (wrap64 (x3 * 256)))) + x4) = x * 16777216 + x2 * 65536 + x3 * 256 + x4:= by unfold wrap64; omega
   rw [w]
   have hp:0 <= x * 16777216 + x2 * 65536 + x3 * 256 + x4:= by omega
   refine ⟨_,_,_,rfl,Int.tmod_nonneg _ hp,fun _ => ?_,fun q => by omega,h24⟩
   rw [Int.tmod_eq_emod_of_nonneg hp]; exact Int.emod_lt_of_pos _ (by omega)
theorem once_ok (c:List Int) (hc:c.length <= 1048576) (i h:Int) (hi:Cur c i) (n:Int):∃ x j g,spec_l1Once.f c i h n = some (x,j,g) /\ Cur c j:= by
 unfold spec_l1Once.f
 obtain ⟨x,j,g,e,_,_,_,q⟩:= below_ok c hc i h hi n
 rw [e]
 exact ⟨_,_,_,rfl,q⟩
theorem table_loop (c:List Int) (hc:c.length <= 1048576) (n:Nat):∀ (l:List S55) (i h:Int),Cur c i -> 1 <= l.length -> l.length + n <= 1000 -> ∃ t j g,Ev (fun k => spec_l8Table.l0 k l (n:Int) c i h) (t,j,g) /\ t.length <= 1000 /\ Cur c j:= by
 induction n with
 | zero =>
  intro l i h hi h1 hl
  obtain ⟨a,j,g,e,a0,a1,_,q⟩:= below_ok c hc i h hi (l.length:Int)
  have a2:= a1 (by omega)
  obtain ⟨b,j2,g2,e2,b0,b1,_,q2⟩:= below_ok c hc j g q 16
  have hn:¬ ((0:Nat):Int) > 0:= by decide
  by_cases z0:b = 0
  ·obtain ⟨d,j3,g3,e3,_,_,_,q3⟩:= below_ok c hc j2 g2 q2 (wrap64 ((l.length:Int) + 1))
   refine ⟨l.set a.toNat ⟨(rd_T55 l a).f0,d,(rd_T55 l a).f2⟩,j3,g3,ev_step ?_,by rw [List.length_set]; omega,q3⟩
   simp only [spec_l8Table.l0,if_neg hn,e,e2,Option.bind_some,if_pos z0,e3,if_pos a0,if_pos a2]
   exact ev_const _
  ·by_cases z1:b = 1
   ·obtain ⟨d,j3,g3,e3,_,_,_,q3⟩:= below_ok c hc j2 g2 q2 8
    refine ⟨l.set a.toNat ⟨wrap64 (d - 1),(rd_T55 l a).f1,(rd_T55 l a).f2⟩,j3,g3,ev_step ?_,by rw [List.length_set]; omega,q3⟩
    simp only [spec_l8Table.l0,if_neg hn,e,e2,Option.bind_some,if_neg z0,if_pos z1,e3,if_pos a0,if_pos a2]
    exact ev_const _
   ·by_cases z2:b = 2
    ·refine ⟨l.set a.toNat ⟨(rd_T55 l a).f0,(rd_T55 l a).f1,wrap64 ((rd_T55 l a).f2 + 1)⟩,j2,g2,ev_step ?_,by rw [List.length_set]; omega,q2⟩
     simp only [spec_l8Table.l0,if_neg hn,e,e2,Option.bind_some,if_neg z0,if_neg z1,if_pos z2,if_pos a0,if_pos a2]
     exact ev_const _
    ·refine ⟨l,j2,g2,ev_step ?_,by omega,q2⟩
     simp only [spec_l8Table.l0,if_neg hn,e,e2,Option.bind_some,if_neg z0,if_neg z1,if_neg z2]
     exact ev_const _
 | succ n ih =>
  intro l i h hi h1 hl
  have w:wrap64 (((n + 1:Nat):Int) - 1) = (n:Int):= by unfold wrap64; omega
  have join:∀ (x5 i h a b d:Int),Cur c i -> ∃ t j g,Ev (fun k => spec_l8Table.j1 k l ((n + 1:Nat):Int) x5 c i h a b d) (t,j,g) /\ t.length <= 1000 /\ Cur c j:= by
   intro x5 i h a b d hi
   have hL:l.length < 5864062014805:= by omega
   obtain ⟨o,j,g,e,q⟩:= once_ok c hc i h hi 6
   cases o
   ·obtain ⟨t,j2,g2,e2,ht,q2⟩:= ih (l ++ [⟨a,b,d⟩]) j g q (by simp) (by simp; omega)
    refine ⟨t,j2,g2,ev_step ?_,ht,q2⟩
    simp only [spec_l8Table.j1,e,Option.bind_some,Bool.false_eq_true,if_false,if_pos hL,w]
    exact e2
   ·obtain ⟨y,j3,g3,e3,_,_,_,q3⟩:= below_ok c hc j g q (wrap64 (x5 + 1))
    obtain ⟨t,j2,g2,e2,ht,q2⟩:= ih (l ++ [⟨0,wrap64 (y - 1),0⟩]) j3 g3 q3 (by simp) (by simp; omega)
    refine ⟨t,j2,g2,ev_step ?_,ht,q2⟩
    simp only [spec_l8Table.j1,e,Option.bind_some,if_true,e3,if_pos hL,w]
    exact e2
  obtain ⟨a,j,g,e,_,_,_,q⟩:= below_ok c hc i h hi 4
  obtain ⟨b,j2,g2,e2,_,_,_,q2⟩:= below_ok c hc j g q (mn (l.length:Int) 4)
  have hp:((n + 1:Nat):Int) > 0:= by omega
  by_cases z:wrap64 (2 + a) <= 3
  ·obtain ⟨d,j3,g3,e3,_,_,_,q3⟩:= below_ok c hc j2 g2 q2 (l.length:Int)
   obtain ⟨t,j4,g4,e4,ht,q4⟩:= join (l.length:Int) j3 g3 (wrap64 (2 + a)) (wrap64 ((wrap64 ((l.length:Int) - 1)) - b)) (wrap64 ((wrap64 ((l.length:Int) - 1)) - d)) q3
   refine ⟨t,j4,g4,ev_step ?_,ht,q4⟩
   simp only [spec_l8Table.l0,if_pos hp,e,e2,Option.bind_some,if_pos z,e3]
   exact e4
  ·obtain ⟨t,j4,g4,e4,ht,q4⟩:= join (l.length:Int) j2 g2 (wrap64 (2 + a)) (wrap64 ((wrap64 ((l.length:Int) - 1)) - b)) 0 q2
   refine ⟨t,j4,g4,ev_step ?_,ht,q4⟩
   simp only [spec_l8Table.l0,if_pos hp,e,e2,Option.bind_some,if_neg z]
   exact e4
theorem below_twelve (c:List Int) (hc:c.length <= 1048576) (i h:Int) (hi:Cur c i):∃ n:Nat,∃ j g,spec_l1Below.f c i h 12 = some ((n:Int),j,g) /\ Cur c j /\ (n:Int) < 12:= by
 obtain ⟨x,j,g,e2,h0,h1,_,q⟩:= below_ok c hc i h hi 12
 obtain ⟨n,rfl⟩:∃ n:Nat,x = n:= ⟨x.toNat,by omega⟩
 have:= h1 (by omega)
 exact ⟨n,j,g,e2,q,this⟩
theorem table_start (c:List Int) (hc:c.length <= 1048576) (n:Nat) (j g:Int) (q:Cur c j) (this:(n:Int) < 12):∃ t j2 g2,Ev (fun k => spec_l8Table.l0 k ([(⟨1,0,0⟩:S55),(⟨0,(-1),0⟩:S55),(⟨0,(-1),0⟩:S55)]:List (S55)) n c j g) (t,j2,g2) /\ t.length <= 1000 /\ Cur c j2:= by
 obtain ⟨t,j2,g2,e3,ht,q2⟩:= table_loop c hc n ([(⟨1,0,0⟩:S55),(⟨0,(-1),0⟩:S55),(⟨0,(-1),0⟩:S55)]:List (S55)) j g q (by simp) (by simp; omega)
 exact ⟨t,j2,g2,e3,ht,q2⟩
theorem draw_table (c:List Int) (hc:c.length <= 1048576) (i h:Int) (hi:Cur c i):∃ t j g,Ev (fun k => spec_l8Table.f k c i h) (t,j,g) /\ t.length <= 1000 /\ Cur c j:= by
 obtain ⟨n,j,g,e2,q,this⟩:= below_twelve c hc i h hi
 obtain ⟨t,j2,g2,e3,ht,q2⟩:= table_start c hc n j g q this
 refine ⟨t,j2,g2,?_,ht,q2⟩
 unfold spec_l8Table.f
 simp only [e2,Option.bind_some]
 exact e3
theorem pick_any (c:List Int) (hc:c.length <= 1048576) (i h:Int) (hi:Cur c i) (z y:Int):∃ x j g,((spec_l1Once.f c i h 2).bind fun bt167 => (if bt167.1 = true then ((spec_l1Below.f c bt167.2.1 bt167.2.2 2).bind fun bt170 => (some (wrap64 (y - bt170.1),bt170.2.1,bt170.2.2))) else ((spec_l1Below.f c bt167.2.1 bt167.2.2 z).bind fun bt173 => (some (wrap64 (bt173.1 - 1),bt173.2.1,bt173.2.2))))) = some (x,j,g) /\ Cur c j:= by
 obtain ⟨o,j,g,e,q⟩:= once_ok c hc i h hi 2
 rw [e]
 cases o
 ·obtain ⟨x,j2,g2,e2,_,_,_,q2⟩:= below_ok c hc j g q z
  simp only [Option.bind_some,Bool.false_eq_true,if_false,e2]
  exact ⟨_,_,_,rfl,q2⟩
 ·obtain ⟨x,j2,g2,e2,_,_,_,q2⟩:= below_ok c hc j g q 2
  simp only [Option.bind_some,if_true,e2]
  exact ⟨_,_,_,rfl,q2⟩
theorem draw_pick (c:List Int) (hc:c.length <= 1048576) (i h:Int) (hi:Cur c i) (t:List S55):∃ x j g,spec_l8Pick.f c i h t = some (x,j,g) /\ Cur c j:= pick_any c hc i h hi (wrap64 ((t.length:Int) + 2)) (wrap64 ((t.length:Int) - 1))
theorem rdT_get (xs:List S55) (i:Nat) (h:i < xs.length):rd_T55 xs (i:Int) = xs[i]:= by
 unfold rd_T55
 simp [List.getD_eq_getElem?_getD,List.getElem?_eq_getElem h]
theorem rd_get (xs:List Int) (i:Nat) (h:i < xs.length):rd xs (i:Int) = xs[i]:= by
 unfold rd
 simp [List.getD_eq_getElem?_getD,List.getElem?_eq_getElem h]
theorem in_same (a b c:Int):impl_in.f a b c = spec_l1In.f a b c:= rfl
theorem in_some (a b c:Int):spec_l1In.f a b c = some (decide (a >= b /\ a <= c)):= by
 unfold spec_l1In.f
 by_cases h:a >= b
 ·simp [h]
 ·simp [h]
def kids (e:S55):List Int :=
 if e.f0 = 0 then (if e.f1 >= 0 then [e.f1] else []) else if e.f0 = 2 \/ e.f0 = 3 then [e.f1,e.f2] else if e.f0 = 4 \/ e.f0 = 5 then [e.f1] else []
theorem spec_kids (e:S55):Ev (fun k => spec_l8Kids.f k e.f0 e.f1 e.f2) (kids e):= by
 refine ev_at 1 fun k hk => ?_
 obtain ⟨k,rfl⟩:∃ m,k = m + 1:= ⟨k - 1,by omega⟩
 simp only [spec_l8Kids.f,spec_l8Kids.j0,kids]
 by_cases h0:e.f0 = 0
 ·simp only [if_pos h0]
  split <;> rfl
 ·simp only [if_neg h0]
  by_cases h2:e.f0 = 2
  ·simp [h2]
  ·by_cases h3:e.f0 = 3
   ·simp [h3]
   ·by_cases h4:e.f0 = 4
    ·simp [h4]
    ·by_cases h5:e.f0 = 5
     ·simp [h5]
     ·simp [h2,h3,h4,h5]
theorem impl_kids (e:S55) (h:0 <= e.f0 /\ e.f0 <= 5):Ev (fun k => impl_partsOf.f k e.f0 e.f1 e.f2) (kids e):= by
 refine ev_at 1 fun k hk => ?_
 obtain ⟨k,rfl⟩:∃ m,k = m + 1:= ⟨k - 1,by omega⟩
 simp only [impl_partsOf.f,impl_partsOf.j0,impl_twoParts.f,kids]
 have hc:e.f0 = 0 \/ e.f0 = 1 \/ e.f0 = 2 \/ e.f0 = 3 \/ e.f0 = 4 \/ e.f0 = 5:= by omega
 rcases hc with h | h | h | h | h | h <;> simp [h]
 by_cases h1:e.f1 < 0
 ·simp [h1,show ¬ 0 <= e.f1 by omega]
 ·simp [h1,show 0 <= e.f1 by omega]
def inr (n:Nat) (x:Int):Bool:= decide (0 <= x /\ x < n)
theorem in_len (n:Nat) (hn:n <= 1048576) (x:Int):spec_l1In.f x 0 (wrap64 ((n:Int) - 1)) = some (inr n x):= by
 rw [in_some,show wrap64 ((n:Int) - 1) = (n:Int) - 1 by unfold wrap64; omega]
 unfold inr
 congr 1
 rw [decide_eq_decide]
 omega
def entry (n:Nat) (e:S55):Bool :=
 decide (0 <= e.f0 /\ e.f0 <= 5) && !decide (e.f0 = 0 /\ e.f1 < -1) && !decide (e.f0 = 1 /\ e.f1 ≠ 0) && decide (e.f0 = 2 \/ e.f0 = 3 \/ e.f2 = 0) && (kids e).all (inr n)
theorem spec_in (t:List S55) (hn:t.length <= 1048576) (i:Nat) (ks:List Int) {r:Bool} (h:ks.all (inr t.length) = true -> Ev (fun k => spec_TableOk.l0 k t ((i + 1:Nat):Int)) r) (hi:i < 1048576) (m:Nat):∀ j:Nat,j + m = ks.length -> ks.length <= 2 -> (ks.take j).all (inr t.length) = true ->
  Ev (fun k => spec_TableOk.l1 k t i ks j) ((ks.drop j).all (inr t.length) && r):= by
 induction m with
 | zero =>
  intro j hj h2 ht
  have c:¬ (j:Int) < (ks.length:Int):= by omega
  apply ev_step
  simp only [spec_TableOk.l1,if_neg c,wrap_next i (by omega)]
  rw [List.drop_of_length_le (by omega)]
  rw [List.take_of_length_le (by omega)] at ht
  simpa using h ht
 | succ m ih =>
  intro j hj h2 ht
  have c:(j:Int) < (ks.length:Int):= by omega
  have c0:0 <= (j:Int):= Int.natCast_nonneg j
  apply ev_step
  simp only [spec_TableOk.l1,if_pos c,if_pos c0,wrap_next j (by omega),in_len t.length hn,Option.bind_some]
  rw [List.drop_eq_getElem_cons (show j < ks.length by omega),List.all_cons,rd_get ks j (by omega)]
  cases hb:inr t.length ks[j]
  ·exact ev_const false
  ·simpa using ih (j + 1) (by omega) h2 (by
    rw [List.take_succ_eq_append_getElem (by omega),List.all_append,ht]
    simpa using hb)
theorem kids_two (e:S55):(kids e).length <= 2:= by
 unfold kids
 repeat' split
 all_goals simp
theorem spec_entry (t:List S55) (hn:t.length <= 1048576) (i:Nat) (hi:i < t.length) {r:Bool} (h:entry t.length t[i] = true -> Ev (fun k => spec_TableOk.l0 k t ((i + 1:Nat):Int)) r):Ev (fun k => spec_TableOk.l0 k t i) (entry t.length t[i] && r):= by
 have c:(i:Int) < (t.length:Int):= by omega
 have c0:0 <= (i:Int):= Int.natCast_nonneg i
 have j2:((kids t[i]).all (inr t.length) = true -> Ev (fun k => spec_TableOk.l0 k t ((i + 1:Nat):Int)) r) -> Ev (fun k => spec_TableOk.j2 k t i false) ((kids t[i]).all (inr t.length) && r):= by
  intro h
  apply ev_step
  simp only [spec_TableOk.j2,if_pos c,if_pos c0,Bool.false_eq_true,if_false,rdT_get t i hi]
  exact ev_bind (spec_kids t[i]) (by simpa using spec_in t hn i (kids t[i]) h (by omega) (kids t[i]).length 0 (by omega) (kids_two _) rfl)
 have j2t:Ev (fun k => spec_TableOk.j2 k t i true) false:= by
  apply ev_step
  simp only [spec_TableOk.j2,if_true]
  exact ev_const false
 have j1t:Ev (fun k => spec_TableOk.j1 k t i true) false:= by
  apply ev_step
  simp only [spec_TableOk.j1,if_true]
  exact ev_const false
 have j1:((decide (t[i].f0 = 2 \/ t[i].f0 = 3 \/ t[i].f2 = 0) && (kids t[i]).all (inr t.length)) = true -> Ev (fun k => spec_TableOk.l0 k t ((i + 1:Nat):Int)) r) -> Ev (fun k => spec_TableOk.j1 k t i false) (decide (t[i].f0 = 2 \/ t[i].f0 = 3 \/ t[i].f2 = 0) && (kids t[i]).all (inr t.length) && r):= by
  intro h
  apply ev_step
  simp only [spec_TableOk.j1,if_pos c,if_pos c0,Bool.false_eq_true,if_false,rdT_get t i hi]
  by_cases h2:t[i].f0 = 2
  ·simpa [h2] using j2 (fun hx => h (by simpa [h2] using hx))
  ·by_cases h3:t[i].f0 = 3
   ·simpa [h3] using j2 (fun hx => h (by simpa [h3] using hx))
   ·by_cases hb:t[i].f2 = 0
    ·simpa [h2,h3,hb] using j2 (fun hx => h (by simpa [hb] using hx))
    ·have hb':(t[i].f2 != 0) = true:= by simpa using hb
     simp only [hb',if_neg h2,if_neg h3]
     simpa [h2,h3,hb] using j2t
 apply ev_step
 simp only [spec_TableOk.l0,if_pos c,if_pos c0,rdT_get t i hi,in_some,Option.bind_some]
 unfold entry
 by_cases hk:0 <= t[i].f0 /\ t[i].f0 <= 5
 ·have hk':t[i].f0 >= 0 /\ t[i].f0 <= 5:= hk
  simp only [decide_eq_true hk,decide_eq_true hk',if_true]
  by_cases h0:t[i].f0 = 0
  ·have h1:¬ t[i].f0 = 1:= by omega
   simp only [if_pos h0]
   by_cases ha:t[i].f1 < -1
   ·simp only [if_pos ha]
    simpa [h0,ha] using j1t
   ·simp only [if_neg ha,if_neg h1]
    simpa [h0,ha] using j1 (fun hx => h (by unfold entry; simp only [decide_eq_true hk,hx,Bool.true_and]; simpa [h0,ha] using hx))
  ·by_cases h1:t[i].f0 = 1
   ·simp only [if_neg h0,if_pos h1]
    by_cases ha:t[i].f1 = 0
    ·simpa [h1,ha] using j1 (fun hx => h (by unfold entry; simp only [decide_eq_true hk,hx,Bool.true_and]; simpa [h1,ha] using hx))
    ·have ha':(t[i].f1 != 0) = true:= by simpa using ha
     simp only [ha']
     simpa [h1,ha] using j1t
   ·simp only [if_neg h0,if_neg h1]
    simpa [h0,h1] using j1 (fun hx => h (by unfold entry; simp only [decide_eq_true hk,hx,Bool.true_and]; simpa [h0,h1] using hx))
 ·have hk':¬ (t[i].f0 >= 0 /\ t[i].f0 <= 5):= hk
  simp only [decide_eq_false hk,decide_eq_false hk',Bool.false_eq_true,if_false]
  simpa using j1t
theorem impl_in_all (t:List S55) (hn:t.length <= 1048576) (ks:List Int) (a b c:Int) (m:Nat):∀ j:Nat,j + m = ks.length -> ks.length <= 2 ->
  Ev (fun k => impl_entryOk.l0 k t ks (ks.length:Int) j a b c) ((ks.drop j).all (inr t.length) && decide (b >= 0)):= by
 induction m with
 | zero =>
  intro j hj h2
  have c:¬ (j:Int) < (ks.length:Int):= by omega
  apply ev_step
  simp only [impl_entryOk.l0,if_neg c]
  rw [List.drop_of_length_le (by omega)]
  simpa using ev_const _
 | succ m ih =>
  intro j hj h2
  have c:(j:Int) < (ks.length:Int):= by omega
  have c0:0 <= (j:Int):= Int.natCast_nonneg j
  apply ev_step
  simp only [impl_entryOk.l0,if_pos c,if_pos c0,wrap_next j (by omega),in_same,in_len t.length hn,Option.bind_some]
  rw [List.drop_eq_getElem_cons (show j < ks.length by omega),List.all_cons,rd_get ks j (by omega)]
  cases hb:inr t.length ks[j]
  ·exact ev_const false
  ·simpa using ih (j + 1) (by omega) h2
theorem impl_entry (t:List S55) (hn:t.length <= 1048576) (e:S55):Ev (fun k => impl_entryOk.f k t e.f0 e.f1 e.f2) (entry t.length e):= by
 unfold impl_entryOk.f
 simp only [in_same,in_some,Option.bind_some,impl_twoParts.f]
 have jt:∀ b,b = true -> Ev (fun k => impl_entryOk.j0 k t b e.f0 e.f1 e.f2) false:= by
  rintro b rfl
  apply ev_step
  simp only [impl_entryOk.j0,if_true]
  exact ev_const false
 by_cases hk:0 <= e.f0 /\ e.f0 <= 5
 ·have hk':e.f0 >= 0 /\ e.f0 <= 5:= hk
  simp only [decide_eq_true hk',if_true]
  have j1:Ev (fun k => impl_entryOk.j1 k t e.f0 e.f1 e.f2) ((kids e).all (inr t.length) && decide (e.f1 >= 0)):= by
   apply ev_step
   simp only [impl_entryOk.j1]
   exact ev_bind (impl_kids e hk) (by simpa using impl_in_all t hn (kids e) e.f0 e.f1 e.f2 (kids e).length 0 (by omega) (kids_two _))
  have j0:∀ b,b = false -> (e.f0 = 2 \/ e.f0 = 3 \/ e.f2 = 0) -> Ev (fun k => impl_entryOk.j0 k t b e.f0 e.f1 e.f2) (entry t.length e):= by
   rintro b rfl hb
   apply ev_step
   simp only [impl_entryOk.j0,Bool.false_eq_true,if_false]
   unfold entry
   rw [decide_eq_true hk,decide_eq_true hb]
   by_cases h1:e.f0 = 1
   ·simp only [if_pos h1]
    by_cases ha:e.f1 = 0
    ·simpa [h1,ha,kids] using ev_const true
    ·have ha':(e.f1 == 0) = false:= by simpa using ha
     simp only [ha']
     simpa [h1,ha,kids] using ev_const false
   ·simp only [if_neg h1]
    by_cases h0:e.f0 = 0
    ·simp only [if_pos h0]
     by_cases ha:e.f1 = -1
     ·simp only [if_pos ha]
      simpa [h0,ha,kids] using ev_const true
     ·simp only [if_neg ha]
      refine ev_eq j1 ?_
      by_cases hp:e.f1 >= 0
      ·simp [h0,hp,kids,show ¬ e.f1 < -1 by omega]
      ·simp [h0,hp,kids,show e.f1 < -1 by omega]
    ·simp only [if_neg h0]
     refine ev_eq j1 ?_
     have hc:e.f0 = 2 \/ e.f0 = 3 \/ e.f0 = 4 \/ e.f0 = 5:= by omega
     rcases hc with h | h | h | h <;> simp [h,kids,inr] <;> intros <;> omega
  by_cases h2:e.f0 = 2
  ·simp only [if_pos h2,Option.bind_some,if_true]
   exact j0 _ rfl (Or.inl h2)
  ·simp only [if_neg h2,Option.bind_some]
   by_cases h3:e.f0 = 3
   ·simp only [h3,beq_self_eq_true,if_true]
    have:= j0 _ rfl (Or.inr (Or.inl h3))
    rw [h3] at this
    exact this
   ·have h3':(e.f0 == 3) = false:= beq_eq_false_iff_ne.2 h3
    simp only [h3',Bool.false_eq_true,if_false]
    by_cases hb:e.f2 = 0
    ·exact j0 _ (by simp [hb]) (Or.inr (Or.inr hb))
    ·refine ev_eq (jt _ (by simp [hb])) ?_
     unfold entry
     simp [h2,h3,hb]
 ·have hk':¬ (e.f0 >= 0 /\ e.f0 <= 5):= hk
  simp only [decide_eq_false hk',Bool.false_eq_true,if_false]
  refine ev_eq (jt _ rfl) ?_
  unfold entry
  rw [decide_eq_false hk]
  rfl
theorem rdb_get (g:List Bool) (i:Nat) (h:i < g.length):rdOf false g (i:Int) = g[i]:= by
 unfold rdOf
 simp [List.getD_eq_getElem?_getD,List.getElem?_eq_getElem h]
def ready (g:List Bool) (ks:List Int):Bool:= ks.all fun x => rdOf false g x
def sweep1 (t:List S55) (g:List Bool) (i:Nat):List Bool:= g.set i (rdOf false g i || ready g (kids (rd_T55 t i)))
def sweep (t:List S55):Nat -> Nat -> List Bool -> List Bool
 | 0,_,g => g
 | m + 1,i,g => sweep t m (i + 1) (sweep1 t g i)
def sweeps (t:List S55):Nat -> List Bool -> List Bool
 | 0,g => g
 | m + 1,g => sweeps t m (sweep t t.length 0 g)
theorem sweep1_len (t:List S55) (g:List Bool) (i:Nat):(sweep1 t g i).length = g.length:= by unfold sweep1; rw [List.length_set]
theorem sweep_len (t:List S55) (m:Nat):∀ i g,(sweep t m i g).length = g.length:= by
 induction m with
 | zero => intro i g; rfl
 | succ m ih => intro i g; rw [sweep,ih,sweep1_len]
def entries (t:List S55):Bool:= t.all (entry t.length)
def table (t:List S55):Bool:= decide (t.length <= 40) && (entries t && (sweeps t t.length (List.replicate t.length false)).all id)
theorem spec_ready (t:List S55) (g:List Bool) (p:Int) (i:Nat) (ks:List Int) {r:Bool} (hi:i < g.length) (hg:g.length <= 1048576) (hks:∀ x ∈ ks,0 <= x /\ x < g.length) (m:Nat):∀ (j:Nat) (b:Bool),j + m = ks.length -> ks.length <= 2 ->
  Ev (fun k => spec_TableOk.l3 k t (g.set i (rdOf false g i || (b && ready g (ks.drop j)))) p ((i + 1:Nat):Int)) r -> Ev (fun k => spec_TableOk.l4 k t g p i ks b j) r:= by
 have ci:(i:Int) < (g.length:Int):= by omega
 have ci0:0 <= (i:Int):= Int.natCast_nonneg i
 induction m with
 | zero =>
  intro j b hj h2 h
  have c:¬ (j:Int) < (ks.length:Int):= by omega
  rw [List.drop_of_length_le (by omega)] at h
  apply ev_step
  simp only [spec_TableOk.l4,if_neg c,if_pos ci,if_pos ci0,wrap_next i (by omega),Int.toNat_natCast]
  cases hb:rdOf false g (i:Int)
  ·simpa [hb,ready] using h
  ·simpa [hb,ready] using h
 | succ m ih =>
  intro j b hj h2 h
  have c:(j:Int) < (ks.length:Int):= by omega
  have c0:0 <= (j:Int):= Int.natCast_nonneg j
  have hj':j < ks.length:= by omega
  have hx:= hks ks[j] (List.getElem_mem hj')
  apply ev_step
  simp only [spec_TableOk.l4,if_pos c,if_pos c0,wrap_next j (by omega),rd_get ks j hj',if_pos hx.1,if_pos hx.2]
  rw [List.drop_eq_getElem_cons hj'] at h
  cases b
  ·simp only [Bool.false_eq_true,if_false]
   exact ih (j + 1) false (by omega) h2 (by simpa using h)
  ·simp only [if_true]
   refine ih (j + 1) _ (by omega) h2 ?_
   have e:(true && ready g (ks[j] :: ks.drop (j + 1))) = (rdOf false g ks[j] && ready g (ks.drop (j + 1))):= rfl
   rw [<- e]
   exact h
theorem spec_sweep (t:List S55) (hn:t.length <= 1048576) (he:entries t = true) (p:Nat) (hp:p < 1048576) {r:Bool} (m:Nat):∀ (i:Nat) (g:List Bool),g.length = t.length -> i + m = t.length ->
  Ev (fun k => spec_TableOk.l2 k t (sweep t m i g) ((p + 1:Nat):Int)) r -> Ev (fun k => spec_TableOk.l3 k t g p i) r:= by
 induction m with
 | zero =>
  intro i g hg hi h
  have c:¬ (i:Int) < (t.length:Int):= by omega
  apply ev_step
  simp only [spec_TableOk.l3,if_neg c,wrap_next p (by omega)]
  exact h
 | succ m ih =>
  intro i g hg hi h
  have c:(i:Int) < (t.length:Int):= by omega
  have c0:0 <= (i:Int):= Int.natCast_nonneg i
  have hi':i < t.length:= by omega
  apply ev_step
  simp only [spec_TableOk.l3,if_pos c,if_pos c0]
  refine ev_bind (spec_kids _) ?_
  have hin:∀ x ∈ kids (rd_T55 t (i:Int)),0 <= x /\ x < (g.length:Int):= by
   intro x hx
   rw [rdT_get t i hi'] at hx
   have:= List.all_eq_true.1 he t[i] (List.getElem_mem hi')
   unfold entry at this
   simp only [Bool.and_eq_true] at this
   have:= List.all_eq_true.1 this.2 x hx
   unfold inr at this
   rw [hg]
   exact of_decide_eq_true this
  refine spec_ready t g p i _ (by omega) (by omega) hin (kids (rd_T55 t (i:Int))).length 0 true (by omega) (kids_two _) ?_
  exact ih (i + 1) _ (by rw [List.length_set]; exact hg) (by omega) (by simpa [sweep,sweep1] using h)
theorem spec_last (t:List S55) (hn:t.length <= 1048576) (g:List Bool) (hg:g.length = t.length) (m:Nat):∀ i:Nat,i + m = t.length -> Ev (fun k => spec_TableOk.l5 k t g i) ((g.drop i).all id):= by
 induction m with
 | zero =>
  intro i hi
  have c:¬ (i:Int) < (t.length:Int):= by omega
  apply ev_step
  simp only [spec_TableOk.l5,if_neg c]
  rw [List.drop_of_length_le (by omega)]
  exact ev_const true
 | succ m ih =>
  intro i hi
  have c:(i:Int) < (t.length:Int):= by omega
  have c1:(i:Int) < (g.length:Int):= by omega
  have c0:0 <= (i:Int):= Int.natCast_nonneg i
  apply ev_step
  simp only [spec_TableOk.l5,if_pos c,if_pos c1,if_pos c0,wrap_next i (by omega),rdb_get g i (by omega)]
  rw [List.drop_eq_getElem_cons (show i < g.length by omega),List.all_cons]
  cases hb:g[i]
  ·exact ev_const false
  ·simpa using ih (i + 1) (by omega)
theorem spec_sweeps (t:List S55) (hn:t.length <= 1048576) (he:entries t = true) (m:Nat):∀ (p:Nat) (g:List Bool),g.length = t.length -> p + m = t.length ->
  Ev (fun k => spec_TableOk.l2 k t g p) ((sweeps t m g).all id):= by
 induction m with
 | zero =>
  intro p g hg hp
  have c:¬ (p:Int) < (t.length:Int):= by omega
  apply ev_step
  simp only [spec_TableOk.l2,if_neg c]
  simpa [sweeps] using spec_last t hn g hg t.length 0 (by omega)
 | succ m ih =>
  intro p g hg hp
  have c:(p:Int) < (t.length:Int):= by omega
  apply ev_step
  simp only [spec_TableOk.l2,if_pos c]
  exact spec_sweep t hn he p (by omega) t.length 0 g hg (by omega) (ih (p + 1) _ (by rw [sweep_len]; exact hg) (by omega))
theorem spec_entries (t:List S55) (hn:t.length <= 1048576) {q:Bool} (hq:entries t = true -> Ev (fun k => spec_TableOk.l0 k t (t.length:Int)) q) (m:Nat):∀ i:Nat,i + m = t.length -> (∀ j (hj:j < t.length),j < i -> entry t.length t[j] = true) ->
  Ev (fun k => spec_TableOk.l0 k t i) (entries t && q):= by
 induction m with
 | zero =>
  intro i hi h
  have he:entries t = true:= by
   refine List.all_eq_true.2 fun x hx => ?_
   obtain ⟨j,hj,rfl⟩:= List.getElem_of_mem hx
   exact h j hj (by omega)
  obtain rfl:i = t.length:= by omega
  rw [he]
  exact hq he
 | succ m ih =>
  intro i hi h
  have hi':i < t.length:= by omega
  cases hb:entry t.length t[i]
  ·have he:entries t = false:= by
    refine Bool.eq_false_iff.2 fun h => ?_
    have:= List.all_eq_true.1 h t[i] (List.getElem_mem hi')
    rw [hb] at this
    cases this
   rw [he]
   have:= spec_entry (r:= true) t hn i hi' (fun h => by rw [hb] at h; cases h)
   rw [hb] at this
   simpa using this
  ·have h2:= ih (i + 1) (by omega) (fun j hj hji => by
    by_cases e:j = i
    ·subst e; exact hb
    ·exact h j hj (by omega))
   have:= spec_entry t hn i hi' (fun _ => h2)
   rw [hb] at this
   simpa using this
theorem spec_table (t:List S55) (hn:t.length <= 1048576):Ev (fun k => spec_TableOk.f k t) (table t):= by
 unfold spec_TableOk.f table
 by_cases h:(t.length:Int) > 40
 ·have h2:¬ t.length <= 40:= by omega
  simp only [if_pos h,decide_eq_false h2]
  exact ev_const false
 ·have h2:t.length <= 40:= by omega
  simp only [if_neg h,decide_eq_true h2,Bool.true_and]
  refine spec_entries t hn (fun he => ?_) t.length 0 (by omega) (fun j hj hji => by omega)
  have c:¬ (t.length:Int) < (t.length:Int):= by omega
  have c0:0 <= (t.length:Int):= Int.natCast_nonneg _
  have c1:t.length <= 281474976710656:= by omega
  apply ev_step
  simp only [spec_TableOk.l0,if_neg c,if_pos c0,Int.toNat_natCast,if_pos c1]
  exact spec_sweeps t hn he t.length 0 _ (by simp) (by omega)
theorem impl_ready (t:List S55) (g:List Bool) (p q:Int) (i:Nat) (ks:List Int) {r:Bool} (hi:i < g.length) (hg:g.length <= 1048576) (hks:∀ x ∈ ks,0 <= x /\ x < g.length) (m:Nat):∀ (j:Nat) (b:Bool),j + m = ks.length -> ks.length <= 2 ->
  Ev (fun k => impl_TableOk.l2 k t (g.set i (rdOf false g i || (b && ready g (ks.drop j)))) p q t (t.length:Int) ((i + 1:Nat):Int)) r -> Ev (fun k => impl_TableOk.l3 k t g i b p q t (t.length:Int) i ks (ks.length:Int) j) r:= by
 have ci:(i:Int) < (g.length:Int):= by omega
 have ci0:0 <= (i:Int):= Int.natCast_nonneg i
 induction m with
 | zero =>
  intro j b hj h2 h
  have c:¬ (j:Int) < (ks.length:Int):= by omega
  rw [List.drop_of_length_le (by omega)] at h
  apply ev_step
  simp only [impl_TableOk.l3,if_neg c,if_pos ci,if_pos ci0,wrap_next i (by omega),Int.toNat_natCast]
  cases hb:rdOf false g (i:Int)
  ·simpa [hb,ready] using h
  ·simpa [hb,ready] using h
 | succ m ih =>
  intro j b hj h2 h
  have c:(j:Int) < (ks.length:Int):= by omega
  have c0:0 <= (j:Int):= Int.natCast_nonneg j
  have hj':j < ks.length:= by omega
  have hx:= hks ks[j] (List.getElem_mem hj')
  apply ev_step
  simp only [impl_TableOk.l3,if_pos c,if_pos c0,wrap_next j (by omega),rd_get ks j hj',if_pos hx.1,if_pos hx.2]
  rw [List.drop_eq_getElem_cons hj'] at h
  cases b
  ·simp only [Bool.false_eq_true,if_false]
   exact ih (j + 1) false (by omega) h2 (by simpa using h)
  ·simp only [if_true]
   refine ih (j + 1) _ (by omega) h2 ?_
   have e:(true && ready g (ks[j] :: ks.drop (j + 1))) = (rdOf false g ks[j] && ready g (ks.drop (j + 1))):= rfl
   rw [<- e]
   exact h
theorem entry_kinds (n:Nat) (e:S55) (h:entry n e = true):(0 <= e.f0 /\ e.f0 <= 5) /\ ∀ x ∈ kids e,0 <= x /\ x < n:= by
 unfold entry at h
 simp only [Bool.and_eq_true] at h
 refine ⟨of_decide_eq_true h.1.1.1.1,fun x hx => ?_⟩
 have:= List.all_eq_true.1 h.2 x hx
 exact of_decide_eq_true this
theorem impl_sweep (t:List S55) (hn:t.length <= 1048576) (he:entries t = true) (q:Int) (p:Nat) (hp:p < 1048576) {r:Bool} (m:Nat):∀ (i:Nat) (g:List Bool),g.length = t.length -> i + m = t.length ->
  Ev (fun k => impl_TableOk.l1 k t (sweep t m i g) q ((p + 1:Nat):Int)) r -> Ev (fun k => impl_TableOk.l2 k t g q p t (t.length:Int) i) r:= by
 induction m with
 | zero =>
  intro i g hg hi h
  have c:¬ (i:Int) < (t.length:Int):= by omega
  apply ev_step
  simp only [impl_TableOk.l2,if_neg c,wrap_next p (by omega)]
  exact h
 | succ m ih =>
  intro i g hg hi h
  have c:(i:Int) < (t.length:Int):= by omega
  have c0:0 <= (i:Int):= Int.natCast_nonneg i
  have hi':i < t.length:= by omega
  have hen:= entry_kinds _ _ (List.all_eq_true.1 he t[i] (List.getElem_mem hi'))
  apply ev_step
  simp only [impl_TableOk.l2,if_pos c,if_pos c0]
  refine ev_bind (impl_kids _ (by rw [rdT_get t i hi']; exact hen.1)) ?_
  refine impl_ready t g q p i _ (by omega) (by omega) (by rw [rdT_get t i hi',hg]; exact hen.2) (kids (rd_T55 t (i:Int))).length 0 true (by omega) (kids_two _) ?_
  exact ih (i + 1) _ (by rw [List.length_set]; exact hg) (by omega) (by simpa [sweep,sweep1] using h)
theorem impl_last (g:List Bool) (hn:g.length <= 1048576) (m:Nat):∀ i:Nat,i + m = g.length -> Ev (fun k => impl_TableOk.l4 k g (g.length:Int) i) ((g.drop i).all id):= by
 induction m with
 | zero =>
  intro i hi
  have c:¬ (i:Int) < (g.length:Int):= by omega
  apply ev_step
  simp only [impl_TableOk.l4,if_neg c]
  rw [List.drop_of_length_le (by omega)]
  exact ev_const true
 | succ m ih =>
  intro i hi
  have c:(i:Int) < (g.length:Int):= by omega
  have c0:0 <= (i:Int):= Int.natCast_nonneg i
  apply ev_step
  simp only [impl_TableOk.l4,if_pos c,if_pos c0,wrap_next i (by omega),rdb_get g i (by omega)]
  rw [List.drop_eq_getElem_cons (show i < g.length by omega),List.all_cons]
  cases hb:g[i]
  ·exact ev_const false
  ·simpa using ih (i + 1) (by omega)
theorem impl_sweeps (t:List S55) (hn:t.length <= 1048576) (he:entries t = true) (m:Nat):∀ (p:Nat) (g:List Bool),g.length = t.length -> p + m = t.length ->
  Ev (fun k => impl_TableOk.l1 k t g (t.length:Int) p) ((sweeps t m g).all id):= by
 induction m with
 | zero =>
  intro p g hg hp
  have c:¬ (p:Int) < (t.length:Int):= by omega
  apply ev_step
  simp only [impl_TableOk.l1,if_neg c]
  simpa [sweeps] using impl_last g (by omega) g.length 0 (by omega)
 | succ m ih =>
  intro p g hg hp
  have c:(p:Int) < (t.length:Int):= by omega
  apply ev_step
  simp only [impl_TableOk.l1,if_pos c]
  exact impl_sweep t hn he _ p (by omega) t.length 0 g hg (by omega) (ih (p + 1) _ (by rw [sweep_len]; exact hg) (by omega))
theorem impl_entries (t:List S55) (hn:t.length <= 1048576) {q:Bool} (hq:entries t = true -> Ev (fun k => impl_TableOk.l0 k t t (t.length:Int) (t.length:Int)) q) (m:Nat):∀ i:Nat,i + m = t.length -> (∀ j (hj:j < t.length),j < i -> entry t.length t[j] = true) ->
  Ev (fun k => impl_TableOk.l0 k t t (t.length:Int) i) (entries t && q):= by
 induction m with
 | zero =>
  intro i hi h
  have he:entries t = true:= by
   refine List.all_eq_true.2 fun x hx => ?_
   obtain ⟨j,hj,rfl⟩:= List.getElem_of_mem hx
   exact h j hj (by omega)
  obtain rfl:i = t.length:= by omega
  rw [he]
  exact hq he
 | succ m ih =>
  intro i hi h
  have hi':i < t.length:= by omega
  have c:(i:Int) < (t.length:Int):= by omega
  have c0:0 <= (i:Int):= Int.natCast_nonneg i
  apply ev_step
  simp only [impl_TableOk.l0,if_pos c,if_pos c0,rdT_get t i hi',wrap_next i (by omega)]
  refine ev_bind (impl_entry t hn t[i]) ?_
  cases hb:entry t.length t[i]
  ·have he:entries t = false:= by
    refine Bool.eq_false_iff.2 fun h => ?_
    have:= List.all_eq_true.1 h t[i] (List.getElem_mem hi')
    rw [hb] at this
    cases this
   rw [he]
   exact ev_const false
  ·have h2:= ih (i + 1) (by omega) (fun j hj hji => by
    by_cases e:j = i
    ·subst e; exact hb
    ·exact h j hj (by omega))
   simpa using h2
theorem impl_table (t:List S55) (hn:t.length <= 1048576):Ev (fun k => impl_TableOk.f k t) (table t):= by
 unfold impl_TableOk.f table
 by_cases h:(t.length:Int) > 40
 ·have h2:¬ t.length <= 40:= by omega
  refine ev_eq (impl_entries t hn (q:= false) (fun he => ?_) t.length 0 (by omega) (fun j hj hji => by omega)) (by simp [h2])
  have c:¬ (t.length:Int) < (t.length:Int):= by omega
  apply ev_step
  simp only [impl_TableOk.l0,if_neg c,if_pos h]
  exact ev_const false
 ·have h2:t.length <= 40:= by omega
  simp only [decide_eq_true h2,Bool.true_and]
  refine impl_entries t hn (fun he => ?_) t.length 0 (by omega) (fun j hj hji => by omega)
  have c:¬ (t.length:Int) < (t.length:Int):= by omega
  have c0:0 <= (t.length:Int):= Int.natCast_nonneg _
  have c1:t.length <= 281474976710656:= by omega
  apply ev_step
  simp only [impl_TableOk.l0,if_neg c,if_neg h,if_pos c0,Int.toNat_natCast,if_pos c1]
  exact impl_sweeps t hn he t.length 0 _ (by simp) (by omega)
inductive Ty where
 | free:Nat -> Ty
 | int:Ty
 | two:Int -> Ty -> Ty -> Ty
 | one:Int -> Ty -> Ty
def sz:Ty -> Nat
 | .free _ => 1
 | .int => 1
 | .two _ a b => 1 + sz a + sz b
 | .one _ a => 1 + sz a
theorem sz_pos (T:Ty):1 <= sz T:= by cases T <;> simp [sz] <;> omega
def Bound (e:S55):Prop:= e.f0 = 0 /\ e.f1 >= 0
inductive Root (t:List S55):Nat -> Nat -> Prop where
 | here (i:Nat) (h:i < t.length):¬ Bound t[i] -> Root t i i
 | next (i:Nat) (h:i < t.length) (j:Nat):Bound t[i] -> Root t t[i].f1.toNat j -> Root t i j
inductive Reads (t:List S55):Nat -> Ty -> Prop where
 | free (i:Nat) (h:i < t.length):t[i].f0 = 0 -> t[i].f1 < 0 -> Reads t i (.free i)
 | bound (i:Nat) (h:i < t.length) (T:Ty):Bound t[i] -> Reads t t[i].f1.toNat T -> Reads t i T
 | int (i:Nat) (h:i < t.length):t[i].f0 = 1 -> Reads t i .int
 | two (i:Nat) (h:i < t.length) (a b:Ty):(t[i].f0 = 2 \/ t[i].f0 = 3) -> 0 <= t[i].f1 -> 0 <= t[i].f2 -> Reads t t[i].f1.toNat a -> Reads t t[i].f2.toNat b -> Reads t i (.two t[i].f0 a b)
 | one (i:Nat) (h:i < t.length) (a:Ty):(t[i].f0 = 4 \/ t[i].f0 = 5) -> 0 <= t[i].f1 -> Reads t t[i].f1.toNat a -> Reads t i (.one t[i].f0 a)
theorem reads_lt {t:List S55} {i:Nat} {T:Ty} (h:Reads t i T):i < t.length:= by cases h <;> assumption
theorem reads_root {t:List S55} {i:Nat} {T:Ty} (h:Reads t i T):∃ j,Root t i j /\ Reads t j T /\ ∃ hj:j < t.length,¬ Bound t[j]:= by
 induction h with
 | free i h a b =>
  have hb:¬ Bound t[i]:= fun hb => by unfold Bound at hb; omega
  exact ⟨i,.here i h hb,.free i h a b,h,hb⟩
 | bound i h T hb _ ih =>
  obtain ⟨j,h1,h2,h3⟩:= ih
  exact ⟨j,.next i h j hb h1,h2,h3⟩
 | int i h a =>
  have hb:¬ Bound t[i]:= fun hb => by unfold Bound at hb; omega
  exact ⟨i,.here i h hb,.int i h a,h,hb⟩
 | two i h a b k h1 h2 ha hb _ _ =>
  have hbb:¬ Bound t[i]:= fun hb => by unfold Bound at hb; omega
  exact ⟨i,.here i h hbb,.two i h a b k h1 h2 ha hb,h,hbb⟩
 | one i h a k h1 ha _ =>
  have hb:¬ Bound t[i]:= fun hb => by unfold Bound at hb; omega
  exact ⟨i,.here i h hb,.one i h a k h1 ha,h,hb⟩
def Right (t:List S55) (g:List Bool):Prop:= ∀ j:Nat,rdOf false g (j:Int) = true -> j < t.length -> ∃ T,Reads t j T
theorem reads_of_ready (t:List S55) (g:List Bool) (hr:Right t g) (i:Nat) (hi:i < t.length) (he:entry t.length t[i] = true) (h:ready g (kids t[i]) = true):∃ T,Reads t i T:= by
 have hk:= entry_kinds _ _ he
 have key:∀ x ∈ kids t[i],0 <= x /\ ∃ T,Reads t x.toNat T:= by
  intro x hx
  have h1:= hk.2 x hx
  refine ⟨h1.1,hr x.toNat ?_ (by omega)⟩
  have:= List.all_eq_true.1 h x hx
  rw [show ((x.toNat:Nat):Int) = x by omega]
  exact this
 have hc:t[i].f0 = 0 \/ t[i].f0 = 1 \/ t[i].f0 = 2 \/ t[i].f0 = 3 \/ t[i].f0 = 4 \/ t[i].f0 = 5:= by omega
 unfold kids at key
 rcases hc with h0 | h0 | h0 | h0 | h0 | h0
 ·by_cases h1:t[i].f1 >= 0
  ·obtain ⟨_,T,hT⟩:= key t[i].f1 (by simp [h0,h1])
   exact ⟨T,.bound i hi T ⟨h0,h1⟩ hT⟩
  ·exact ⟨_,.free i hi h0 (by omega)⟩
 ·exact ⟨_,.int i hi h0⟩
 ·obtain ⟨g1,a,ha⟩:= key t[i].f1 (by simp [h0])
  obtain ⟨g2,b,hb⟩:= key t[i].f2 (by simp [h0])
  exact ⟨_,.two i hi a b (Or.inl h0) g1 g2 ha hb⟩
 ·obtain ⟨g1,a,ha⟩:= key t[i].f1 (by simp [h0])
  obtain ⟨g2,b,hb⟩:= key t[i].f2 (by simp [h0])
  exact ⟨_,.two i hi a b (Or.inr h0) g1 g2 ha hb⟩
 ·obtain ⟨g1,a,ha⟩:= key t[i].f1 (by simp [h0])
  exact ⟨_,.one i hi a (Or.inl h0) g1 ha⟩
 ·obtain ⟨g1,a,ha⟩:= key t[i].f1 (by simp [h0])
  exact ⟨_,.one i hi a (Or.inr h0) g1 ha⟩
theorem right_sweep (t:List S55) (he:entries t = true) (m:Nat):∀ i g,i + m = t.length -> Right t g -> Right t (sweep t m i g):= by
 induction m with
 | zero => intro i g _ h; exact h
 | succ m ih =>
  intro i g hi h
  rw [sweep]
  refine ih (i + 1) _ (by omega) ?_
  have hi':i < t.length:= by omega
  intro j hj hjt
  unfold sweep1 at hj
  by_cases e:j = i
  ·subst e
   by_cases hjg:j < g.length
   ·rw [rdb_get _ j (by rw [List.length_set]; exact hjg),List.getElem_set_self,Bool.or_eq_true] at hj
    rcases hj with hj | hj
    ·exact h j hj hjt
    ·rw [rdT_get t j hi'] at hj
     exact reads_of_ready t g h j hi' (List.all_eq_true.1 he t[j] (List.getElem_mem hi')) hj
   ·rw [List.set_eq_of_length_le (by omega)] at hj
    exact h j hj hjt
  ·refine h j ?_ hjt
   unfold rdOf at hj ⊢
   simp only [Int.toNat_natCast,List.getD_eq_getElem?_getD] at hj ⊢
   rw [List.getElem?_set_ne (Ne.symm e)] at hj
   exact hj
theorem right_sweeps (t:List S55) (he:entries t = true) (m:Nat):∀ g,Right t g -> Right t (sweeps t m g):= by
 induction m with
 | zero => intro g h; exact h
 | succ m ih =>
  intro g h
  exact ih _ (right_sweep t he t.length 0 g (by omega) h)
theorem sweeps_len (t:List S55) (m:Nat):∀ g,(sweeps t m g).length = g.length:= by
 induction m with
 | zero => intro g; rfl
 | succ m ih => intro g; rw [sweeps,ih,sweep_len]
theorem table_reads (t:List S55) (h:table t = true) (i:Nat) (hi:i < t.length):∃ T,Reads t i T:= by
 unfold table at h
 simp only [Bool.and_eq_true] at h
 have hr:= right_sweeps t h.2.1 t.length (List.replicate t.length false) (fun j hj _ => by
  exfalso
  unfold rdOf at hj
  simp only [Int.toNat_natCast,List.getD_eq_getElem?_getD] at hj
  rw [List.getElem?_replicate] at hj
  split at hj <;> simp at hj)
 refine hr i ?_ hi
 have hl:i < (sweeps t t.length (List.replicate t.length false)).length:= by rw [sweeps_len]; simpa using hi
 rw [rdb_get _ i hl]
 exact List.all_eq_true.1 h.2.2 _ (List.getElem_mem hl)
theorem find_root (t:List S55) (i j:Nat) (h:Root t i j):Ev (fun k => spec_l8Find.f k t i) (j:Int):= by
 unfold spec_l8Find.f
 induction h with
 | here i h hb =>
  have c:(i:Int) < (t.length:Int):= by omega
  have c0:0 <= (i:Int):= Int.natCast_nonneg i
  apply ev_step
  simp only [spec_l8Find.l0,if_pos c,if_pos c0,rdT_get t i h]
  unfold Bound at hb
  by_cases h0:t[i].f0 = 0
  ·have h1:¬ t[i].f1 >= 0:= fun h => hb ⟨h0,h⟩
   simp only [if_pos h0,if_neg h1]
   exact ev_const _
  ·simp only [if_neg h0]
   exact ev_const _
 | next i h j hb _ ih =>
  have c:(i:Int) < (t.length:Int):= by omega
  have c0:0 <= (i:Int):= Int.natCast_nonneg i
  unfold Bound at hb
  apply ev_step
  simp only [spec_l8Find.l0,if_pos c,if_pos c0,rdT_get t i h,if_pos hb.1,if_pos hb.2]
  rw [show ((t[i].f1.toNat:Nat):Int) = t[i].f1 by omega] at ih
  exact ih
theorem count_root (t:List S55) (i j:Nat) (h:Root t i j) (most:Int) {r:Int} (hr:Ev (fun k => impl_count.j1 k t j most) r):Ev (fun k => impl_count.l0 k t i most) r:= by
 induction h with
 | here i h hb =>
  have c:(i:Int) < (t.length:Int):= by omega
  have c0:0 <= (i:Int):= Int.natCast_nonneg i
  apply ev_step
  simp only [impl_count.l0,if_pos c,if_pos c0,rdT_get t i h]
  unfold Bound at hb
  by_cases h0:t[i].f0 = 0
  ·simp only [if_pos h0]
   have h1:¬ t[i].f1 >= 0:= fun h => hb ⟨h0,h⟩
   simp only [if_neg h1]
   exact hr
  ·simp only [if_neg h0]
   exact hr
 | next i h j hb _ ih =>
  have c:(i:Int) < (t.length:Int):= by omega
  have c0:0 <= (i:Int):= Int.natCast_nonneg i
  unfold Bound at hb
  have ih':= ih hr
  rw [show ((t[i].f1.toNat:Nat):Int) = t[i].f1 by omega] at ih'
  apply ev_step
  simp only [impl_count.l0,if_pos c,if_pos c0,rdT_get t i h,if_pos hb.1,if_pos hb.2]
  exact ih'
def least (n:Nat) (most:Int):Int:= if (n:Int) <= most then n else most + 1
theorem mn_least (n:Nat) (most x:Int) (h:x = n \/ ((n:Int) > most /\ x > most)):mn x (most + 1) = least n most:= by
 unfold mn least
 rcases h with rfl | ⟨h1,h2⟩
 ·split <;> split <;> omega
 ·rw [if_neg (show ¬ (n:Int) <= most by omega)]
  split <;> omega
theorem least_le (n:Nat) (most:Int):least n most <= most + 1:= by unfold least; split <;> omega
theorem least_pos (n:Nat) (most:Int) (h:1 <= n) (h0:0 <= most):1 <= least n most:= by unfold least; split <;> omega
theorem sub_wrap (a b:Int) (h:0 <= a /\ a <= 1000) (h2:0 <= b /\ b <= 1000):wrap64 (a - b) = a - b:= by unfold wrap64; omega
theorem add_wrap (a b:Int) (h:0 <= a /\ a <= 1000) (h2:0 <= b /\ b <= 1000):wrap64 (a + b) = a + b:= by unfold wrap64; omega
theorem wrap_one:wrap64 ((0:Int) + 1) = 1:= by decide +kernel
theorem wrap_two:wrap64 ((1:Int) + 1) = 2:= by decide +kernel
theorem spec_two (t:List S55) (x y:Int) (p q:Nat) (hp:1 <= p) (hq:1 <= q) (hx:∀ most:Int,0 <= most -> most <= 60 -> Ev (fun k => spec_l8Size.f k t x most) (least p most)) (hy:∀ most:Int,0 <= most -> most <= 60 -> Ev (fun k => spec_l8Size.f k t y most) (least q most))
  (most:Int) (h0:0 <= most) (h1:most <= 60):Ev (fun k => spec_l8Size.l0 k t most 1 [x,y] 0) (least (1 + p + q) most):= by
 apply ev_step
 simp only [spec_l8Size.l0,List.length_cons,List.length_nil,Int.reduceLT,if_true,Int.reduceLE]
 by_cases c1:1 <= most
 ·have l1:= least_le p (most - 1)
  have l2:= least_pos p (most - 1) hp (by omega)
  simp only [if_pos c1,sub_wrap most 1 (by omega) (by omega)]
  refine ev_bind (hx (most - 1) (by omega) (by omega)) ?_
  rw [add_wrap 1 _ (by omega) (by omega)]
  apply ev_step
  simp only [spec_l8Size.l0,List.length_cons,List.length_nil,wrap_one]
  by_cases c2:1 + least p (most - 1) <= most
  ·have e:least p (most - 1) = p:= by unfold least at c2 ⊢; split <;> split at c2 <;> omega
   have l3:= least_le q (most - (1 + (p:Int)))
   have l4:= least_pos q (most - (1 + (p:Int))) hq (by omega)
   rw [e] at c2 ⊢
   have cc:(1:Int) < ((0 + 1 + 1:Nat):Int):= by decide
   simp only [if_pos cc,if_pos c2,sub_wrap most (1 + (p:Int)) (by omega) (by omega)]
   refine ev_bind (hy (most - (1 + (p:Int))) (by omega) (by omega)) ?_
   rw [add_wrap (1 + (p:Int)) _ (by omega) (by omega)]
   apply ev_step
   simp only [spec_l8Size.l0,List.length_cons,List.length_nil,wrap_two]
   have cn:¬ (2:Int) < ((0 + 1 + 1:Nat):Int):= by decide
   simp only [if_neg cn,add_wrap most 1 (by omega) (by omega)]
   rw [mn_least (1 + p + q) most _ (by unfold least; split <;> omega)]
   exact ev_const _
  ·have cc:(1:Int) < ((0 + 1 + 1:Nat):Int):= by decide
   simp only [if_pos cc,if_neg c2,add_wrap most 1 (by omega) (by omega)]
   rw [mn_least (1 + p + q) most _ (by unfold least at c2 ⊢; split <;> split at c2 <;> omega)]
   exact ev_const _
 ·simp only [if_neg c1,add_wrap most 1 (by omega) (by omega)]
  rw [mn_least (1 + p + q) most _ (by omega)]
  exact ev_const _
theorem spec_one (t:List S55) (x:Int) (p:Nat) (hp:1 <= p) (hx:∀ most:Int,0 <= most -> most <= 60 -> Ev (fun k => spec_l8Size.f k t x most) (least p most))
  (most:Int) (h0:0 <= most) (h1:most <= 60):Ev (fun k => spec_l8Size.l0 k t most 1 [x] 0) (least (1 + p) most):= by
 apply ev_step
 simp only [spec_l8Size.l0,List.length_cons,List.length_nil]
 have cc:(0:Int) < ((0 + 1:Nat):Int):= by decide
 by_cases c1:1 <= most
 ·have l1:= least_le p (most - 1)
  have l2:= least_pos p (most - 1) hp (by omega)
  simp only [if_pos cc,if_pos c1,Int.le_refl,if_true,sub_wrap most 1 (by omega) (by omega)]
  refine ev_bind (hx (most - 1) (by omega) (by omega)) ?_
  rw [add_wrap 1 _ (by omega) (by omega)]
  apply ev_step
  simp only [spec_l8Size.l0,List.length_cons,List.length_nil,wrap_one]
  have cn:¬ (1:Int) < ((0 + 1:Nat):Int):= by decide
  simp only [if_neg cn,add_wrap most 1 (by omega) (by omega)]
  rw [mn_least (1 + p) most _ (by unfold least; split <;> omega)]
  exact ev_const _
 ·simp only [if_pos cc,if_neg c1,add_wrap most 1 (by omega) (by omega)]
  rw [mn_least (1 + p) most _ (by omega)]
  exact ev_const _
theorem least_one (most:Int) (h:0 <= most):least 1 most = 1:= by unfold least; split <;> omega
theorem spec_size (t:List S55) (T:Ty):∀ i,Reads t i T -> ∀ most:Int,0 <= most -> most <= 60 -> Ev (fun k => spec_l8Size.f k t (i:Int) most) (least (sz T) most):= by
 induction T with
 | free v =>
  intro i hr most h0 h1
  obtain ⟨j,h2,h3,hj,hb⟩:= reads_root hr
  have c:(j:Int) < (t.length:Int):= by omega
  have c0:0 <= (j:Int):= Int.natCast_nonneg j
  apply ev_step
  simp only [spec_l8Size.f]
  refine ev_bind (find_root t i j h2) ?_
  simp only [if_pos c,if_pos c0,rdT_get t j hj]
  cases h3 with
  | free _ _ h4 _ =>
   simp only [if_pos h4,sz,least_one most h0]
   exact ev_const _
  | bound _ _ _ h4 _ => exact absurd h4 hb
 | int =>
  intro i hr most h0 h1
  obtain ⟨j,h2,h3,hj,hb⟩:= reads_root hr
  have c:(j:Int) < (t.length:Int):= by omega
  have c0:0 <= (j:Int):= Int.natCast_nonneg j
  apply ev_step
  simp only [spec_l8Size.f]
  refine ev_bind (find_root t i j h2) ?_
  simp only [if_pos c,if_pos c0,rdT_get t j hj]
  cases h3 with
  | int _ _ h4 =>
   have hn:¬ t[j].f0 = 0:= by omega
   simp only [if_neg hn]
   refine ev_bind (spec_kids t[j]) ?_
   have hk:kids t[j] = []:= by unfold kids; simp [h4]
   rw [hk]
   apply ev_step
   simp only [spec_l8Size.l0,List.length_nil,add_wrap most 1 (by omega) (by omega)]
   have cn:¬ (0:Int) < ((0:Nat):Int):= by decide
   simp only [if_neg cn]
   rw [mn_least 1 most _ (by omega)]
   exact ev_const _
  | bound _ _ _ h4 _ => exact absurd h4 hb
 | two kk a b iha ihb =>
  intro i hr most h0 h1
  obtain ⟨j,h2,h3,hj,hb⟩:= reads_root hr
  have c:(j:Int) < (t.length:Int):= by omega
  have c0:0 <= (j:Int):= Int.natCast_nonneg j
  apply ev_step
  simp only [spec_l8Size.f]
  refine ev_bind (find_root t i j h2) ?_
  simp only [if_pos c,if_pos c0,rdT_get t j hj]
  generalize hK:Ty.two kk a b = K at h3
  cases h3 with
  | two _ _ a' b' h4 g1 g2 ha hbb =>
   injection hK with e1 e2 e3
   subst e2 e3
   have hn:¬ t[j].f0 = 0:= by omega
   simp only [if_neg hn]
   refine ev_bind (spec_kids t[j]) ?_
   have hk:kids t[j] = [t[j].f1,t[j].f2]:= by unfold kids; rcases h4 with h4 | h4 <;> simp [h4]
   rw [hk]
   refine spec_two t _ _ (sz a) (sz b) (sz_pos a) (sz_pos b) ?_ ?_ most h0 h1
   ·have:= iha _ ha
    rw [show ((t[j].f1.toNat:Nat):Int) = t[j].f1 by omega] at this
    exact this
   ·have:= ihb _ hbb
    rw [show ((t[j].f2.toNat:Nat):Int) = t[j].f2 by omega] at this
    exact this
  | bound _ _ _ h4 _ => exact absurd h4 hb
  | free _ _ _ _ => cases hK
  | int _ _ _ => cases hK
  | one _ _ _ _ _ _ => cases hK
 | one kk a iha =>
  intro i hr most h0 h1
  obtain ⟨j,h2,h3,hj,hb⟩:= reads_root hr
  have c:(j:Int) < (t.length:Int):= by omega
  have c0:0 <= (j:Int):= Int.natCast_nonneg j
  apply ev_step
  simp only [spec_l8Size.f]
  refine ev_bind (find_root t i j h2) ?_
  simp only [if_pos c,if_pos c0,rdT_get t j hj]
  generalize hK:Ty.one kk a = K at h3
  cases h3 with
  | one _ _ a' h4 g1 ha =>
   injection hK with e1 e2
   subst e2
   have hn:¬ t[j].f0 = 0:= by omega
   simp only [if_neg hn]
   refine ev_bind (spec_kids t[j]) ?_
   have hk:kids t[j] = [t[j].f1]:= by unfold kids; rcases h4 with h4 | h4 <;> simp [h4]
   rw [hk]
   refine spec_one t _ (sz a) (sz_pos a) ?_ most h0 h1
   have:= iha _ ha
   rw [show ((t[j].f1.toNat:Nat):Int) = t[j].f1 by omega] at this
   exact this
  | bound _ _ _ h4 _ => exact absurd h4 hb
  | free _ _ _ _ => cases hK
  | int _ _ _ => cases hK
  | two _ _ _ _ _ _ _ _ _ => cases hK
theorem impl_two (t:List S55) (x y:Int) (p q:Nat) (hp:1 <= p) (hq:1 <= q) (hx:∀ most:Int,0 <= most -> most <= 60 -> Ev (fun k => impl_count.f k t x most) (least p most)) (hy:∀ most:Int,0 <= most -> most <= 60 -> Ev (fun k => impl_count.f k t y most) (least q most))
  (most:Int) (h0:0 <= most) (h1:most <= 60):Ev (fun k => impl_count.l1 k t most 1 [x,y] (([x,y]:List Int).length:Int) 0) (least (1 + p + q) most):= by
 have k0:(0:Int) < (([x,y]:List Int).length:Int):= by simp
 have k1:(1:Int) < (([x,y]:List Int).length:Int):= by simp
 have k2:¬ (2:Int) < (([x,y]:List Int).length:Int):= by simp
 have z0:(0:Int) <= 0:= by omega
 have z1:(0:Int) <= 1:= by omega
 apply ev_step
 simp only [impl_count.l1,if_pos k0,if_pos z0]
 by_cases c1:1 > most
 ·simp only [if_pos c1]
  refine ev_eq (ev_const 1) ?_
  unfold least
  split <;> omega
 ·have l1:= least_le p (most - 1)
  have l2:= least_pos p (most - 1) hp (by omega)
  simp only [if_neg c1,sub_wrap most 1 (by omega) (by omega)]
  refine ev_bind (hx (most - 1) (by omega) (by omega)) ?_
  rw [add_wrap 1 _ (by omega) (by omega),wrap_one]
  apply ev_step
  simp only [impl_count.l1,if_pos k1,if_pos z1]
  by_cases c2:1 + least p (most - 1) > most
  ·simp only [if_pos c2]
   refine ev_eq (ev_const _) ?_
   unfold least at c2 ⊢
   split <;> split at c2 <;> omega
  ·have e:least p (most - 1) = p:= by unfold least at c2 ⊢; split <;> split at c2 <;> omega
   have l3:= least_le q (most - (1 + (p:Int)))
   have l4:= least_pos q (most - (1 + (p:Int))) hq (by omega)
   rw [e] at c2 ⊢
   simp only [if_neg c2,sub_wrap most (1 + (p:Int)) (by omega) (by omega)]
   refine ev_bind (hy (most - (1 + (p:Int))) (by omega) (by omega)) ?_
   rw [add_wrap (1 + (p:Int)) _ (by omega) (by omega),wrap_two]
   apply ev_step
   simp only [impl_count.l1,if_neg k2]
   refine ev_eq (ev_const _) ?_
   unfold least
   split <;> split <;> omega
theorem impl_one (t:List S55) (x:Int) (p:Nat) (hp:1 <= p) (hx:∀ most:Int,0 <= most -> most <= 60 -> Ev (fun k => impl_count.f k t x most) (least p most))
  (most:Int) (h0:0 <= most) (h1:most <= 60):Ev (fun k => impl_count.l1 k t most 1 [x] (([x]:List Int).length:Int) 0) (least (1 + p) most):= by
 have k0:(0:Int) < (([x]:List Int).length:Int):= by simp
 have k1:¬ (1:Int) < (([x]:List Int).length:Int):= by simp
 have z0:(0:Int) <= 0:= by omega
 apply ev_step
 simp only [impl_count.l1,if_pos k0,if_pos z0]
 by_cases c1:1 > most
 ·simp only [if_pos c1]
  refine ev_eq (ev_const 1) ?_
  unfold least
  split <;> omega
 ·have l1:= least_le p (most - 1)
  have l2:= least_pos p (most - 1) hp (by omega)
  simp only [if_neg c1,sub_wrap most 1 (by omega) (by omega)]
  refine ev_bind (hx (most - 1) (by omega) (by omega)) ?_
  rw [add_wrap 1 _ (by omega) (by omega),wrap_one]
  apply ev_step
  simp only [impl_count.l1,if_neg k1]
  refine ev_eq (ev_const _) ?_
  unfold least
  split <;> split <;> omega
theorem reads_kind {t:List S55} {i:Nat} {T:Ty} (h:Reads t i T) (hi:i < t.length):0 <= t[i].f0 /\ t[i].f0 <= 5:= by
 cases h with
 | free _ _ h4 _ => omega
 | bound _ _ _ h4 _ => unfold Bound at h4; omega
 | int _ _ h4 => omega
 | two _ _ _ _ h4 _ _ _ _ => omega
 | one _ _ _ h4 _ _ => omega
theorem impl_size (t:List S55) (T:Ty):∀ i,Reads t i T -> ∀ most:Int,0 <= most -> most <= 60 -> Ev (fun k => impl_count.f k t (i:Int) most) (least (sz T) most):= by
 have start:∀ (i:Nat) (most:Int) (r:Int),Ev (fun k => impl_count.l0 k t i most) r -> Ev (fun k => impl_count.f k t (i:Int) most) r:= by
  intro i most r h
  apply ev_step
  simp only [impl_count.f]
  exact h
 induction T with
 | free v =>
  intro i hr most h0 h1
  obtain ⟨j,h2,h3,hj,hb⟩:= reads_root hr
  have c:(j:Int) < (t.length:Int):= by omega
  have c0:0 <= (j:Int):= Int.natCast_nonneg j
  refine start i most _ (count_root t i j h2 most ?_)
  have hkind:= reads_kind h3 hj
  apply ev_step
  simp only [impl_count.j1,if_pos c,if_pos c0,rdT_get t j hj]
  refine ev_bind (impl_kids t[j] hkind) ?_
  cases h3 with
  | free _ _ h4 h5 =>
   have hk:kids t[v] = []:= by unfold kids; simp [h4,show ¬ t[v].f1 >= 0 by omega]
   rw [hk]
   apply ev_step
   have k0:¬ (0:Int) < (([]:List Int).length:Int):= by simp
   simp only [impl_count.l1,if_neg k0,sz,least_one most h0]
   exact ev_const _
  | bound _ _ _ h4 _ => exact absurd h4 hb
 | int =>
  intro i hr most h0 h1
  obtain ⟨j,h2,h3,hj,hb⟩:= reads_root hr
  have c:(j:Int) < (t.length:Int):= by omega
  have c0:0 <= (j:Int):= Int.natCast_nonneg j
  refine start i most _ (count_root t i j h2 most ?_)
  have hkind:= reads_kind h3 hj
  apply ev_step
  simp only [impl_count.j1,if_pos c,if_pos c0,rdT_get t j hj]
  refine ev_bind (impl_kids t[j] hkind) ?_
  cases h3 with
  | int _ _ h4 =>
   have hk:kids t[j] = []:= by unfold kids; simp [h4]
   rw [hk]
   apply ev_step
   have k0:¬ (0:Int) < (([]:List Int).length:Int):= by simp
   simp only [impl_count.l1,if_neg k0,sz,least_one most h0]
   exact ev_const _
  | bound _ _ _ h4 _ => exact absurd h4 hb
 | two kk a b iha ihb =>
  intro i hr most h0 h1
  obtain ⟨j,h2,h3,hj,hb⟩:= reads_root hr
  have c:(j:Int) < (t.length:Int):= by omega
  have c0:0 <= (j:Int):= Int.natCast_nonneg j
  refine start i most _ (count_root t i j h2 most ?_)
  have hkind:= reads_kind h3 hj
  apply ev_step
  simp only [impl_count.j1,if_pos c,if_pos c0,rdT_get t j hj]
  refine ev_bind (impl_kids t[j] hkind) ?_
  generalize hK:Ty.two kk a b = K at h3
  cases h3 with
  | two _ _ a' b' h4 g1 g2 ha hbb =>
   injection hK with e1 e2 e3
   subst e2 e3
   have hk:kids t[j] = [t[j].f1,t[j].f2]:= by unfold kids; rcases h4 with h4 | h4 <;> simp [h4]
   rw [hk]
   refine impl_two t _ _ (sz a) (sz b) (sz_pos a) (sz_pos b) ?_ ?_ most h0 h1
   ·have:= iha _ ha
    rw [show ((t[j].f1.toNat:Nat):Int) = t[j].f1 by omega] at this
    exact this
   ·have:= ihb _ hbb
    rw [show ((t[j].f2.toNat:Nat):Int) = t[j].f2 by omega] at this
    exact this
  | bound _ _ _ h4 _ => exact absurd h4 hb
  | free _ _ _ _ => cases hK
  | int _ _ _ => cases hK
  | one _ _ _ _ _ _ => cases hK
 | one kk a iha =>
  intro i hr most h0 h1
  obtain ⟨j,h2,h3,hj,hb⟩:= reads_root hr
  have c:(j:Int) < (t.length:Int):= by omega
  have c0:0 <= (j:Int):= Int.natCast_nonneg j
  refine start i most _ (count_root t i j h2 most ?_)
  have hkind:= reads_kind h3 hj
  apply ev_step
  simp only [impl_count.j1,if_pos c,if_pos c0,rdT_get t j hj]
  refine ev_bind (impl_kids t[j] hkind) ?_
  generalize hK:Ty.one kk a = K at h3
  cases h3 with
  | one _ _ a' h4 g1 ha =>
   injection hK with e1 e2
   subst e2
   have hk:kids t[j] = [t[j].f1]:= by unfold kids; rcases h4 with h4 | h4 <;> simp [h4]
   rw [hk]
   refine impl_one t _ (sz a) (sz_pos a) ?_ most h0 h1
   have:= iha _ ha
   rw [show ((t[j].f1.toNat:Nat):Int) = t[j].f1 by omega] at this
   exact this
  | bound _ _ _ h4 _ => exact absurd h4 hb
  | free _ _ _ _ => cases hK
  | int _ _ _ => cases hK
  | two _ _ _ _ _ _ _ _ _ => cases hK
theorem sizes_both (t:List S55) (hn:t.length <= 1048576) (i:Int):∃ r,Ev (fun k => spec_SizeOf.f k t i) r /\ Ev (fun k => impl_SizeOf.f k t i) r /\
  ((r = 0 /\ ¬ (table t = true /\ 0 <= i /\ i < t.length)) \/ (table t = true /\ 0 <= i /\ i < t.length /\ ∃ T,Reads t i.toNat T /\ r = least (sz T) 60)):= by
 unfold spec_SizeOf.f impl_SizeOf.f
 cases ht:table t
 ·refine ⟨0,ev_bind (spec_table t hn) ?_,ev_bind (impl_table t hn) ?_,Or.inl ⟨rfl,by simp⟩⟩
  ·simp only [ht,Bool.false_eq_true,if_false]
   exact ev_const _
  ·simp only [ht,Bool.false_eq_true,if_false]
   exact ev_const _
 ·by_cases hi:0 <= i /\ i < (t.length:Int)
  ·obtain ⟨T,hT⟩:= table_reads t ht i.toNat (by omega)
   have hii:((i.toNat:Nat):Int) = i:= by omega
   refine ⟨least (sz T) 60,ev_bind (spec_table t hn) ?_,ev_bind (impl_table t hn) ?_,Or.inr ⟨rfl,hi.1,hi.2,T,hT,rfl⟩⟩
   ·simp only [ht,if_true,in_len t.length hn,Option.bind_some,inr,decide_eq_true hi]
    have:= spec_size t T i.toNat hT 60 (by omega) (by omega)
    rw [hii] at this
    exact ev_bind this (ev_const _)
   ·simp only [ht,if_true,in_same,in_len t.length hn,Option.bind_some,inr,decide_eq_true hi,impl_sizeOf.f]
    have:= impl_size t T i.toNat hT 60 (by omega) (by omega)
    rw [hii] at this
    refine ev_bind (ev_bind this (ev_const _)) ?_
    refine ev_eq (ev_const _) ?_
    have:= least_le (sz T) 60
    unfold mn
    split <;> omega
  ·refine ⟨0,ev_bind (spec_table t hn) ?_,ev_bind (impl_table t hn) ?_,Or.inl ⟨rfl,fun h => hi ⟨h.2.1,h.2.2⟩⟩⟩
   ·simp only [ht,if_true,in_len t.length hn,Option.bind_some,inr,decide_eq_false hi,Bool.false_eq_true,if_false]
    exact ev_const _
   ·simp only [ht,if_true,in_same,in_len t.length hn,Option.bind_some,inr,decide_eq_false hi,Bool.false_eq_true,if_false]
    exact ev_const _
theorem digs (l:List UInt8):(⟨l.toArray⟩:ByteArray).size = l.length:= by simp [ByteArray.size]
theorem dec_step (u:Nat) (h:10 <= u):Lib.decDigits u = Lib.decDigits (u / 10) ++ [UInt8.ofNat (48 + u % 10)]:= by
 rw [Lib.decDigits,dif_neg (by omega)]
theorem dec_last (u:Nat) (h:u < 10):Lib.decDigits u = [UInt8.ofNat (48 + u)]:= by
 rw [Lib.decDigits,dif_pos h]
theorem dec_len (d:Nat):∀ u:Nat,u < 10 ^ d -> (Lib.decDigits u).length <= d + 1:= by
 induction d with
 | zero => intro u h; rw [dec_last u (by simp at h; omega)]; simp
 | succ d ih =>
  intro u h
  by_cases c:u < 10
  ·rw [dec_last u c]; simp
  ·rw [dec_step u (by omega),List.length_append]
   have:= ih (u / 10) (by rw [Nat.pow_succ] at h; omega)
   simp
   omega
def decM (n:Int):ByteArray:= ⟨(Lib.itoa n).toArray⟩
theorem decM_size (n:Int) (h0:-9223372036854775808 <= n) (h1:n <= 9223372036854775807):(decM n).size <= 22:= by
 unfold decM Lib.itoa
 rw [digs]
 have h10:(10:Nat) ^ 20 = 100000000000000000000:= by decide
 split
 ·have:= dec_len 20 n.natAbs (by rw [h10]; omega)
  simp
  omega
 ·have:= dec_len 20 n.toNat (by rw [h10]; omega)
  omega
def place:List Int -> Int -> Nat
 | [],_ => 0
 | x :: xs,v => if x = v then 0 else place xs v + 1
def quo (n:Int):ByteArray:= (⟨#[39]⟩:ByteArray) ++ decM n
def txt:Ty -> List Int -> ByteArray × List Int
 | .free v,ns => (quo (place ns v:Nat),if (v:Int) ∈ ns then ns else ns ++ [(v:Int)])
 | .int,ns => ((⟨#[105,110,116]⟩:ByteArray),ns)
 | .two k a b,ns => (if k = 2 then (((((⟨#[40]⟩:ByteArray) ++ (txt a ns).1) ++ (⟨#[32,45,62,32]⟩:ByteArray)) ++ (txt b (txt a ns).2).1) ++ (⟨#[41]⟩:ByteArray)) else (((((⟨#[40]⟩:ByteArray) ++ (txt a ns).1) ++ (⟨#[32,42,32]⟩:ByteArray)) ++ (txt b (txt a ns).2).1) ++ (⟨#[41]⟩:ByteArray)),(txt b (txt a ns).2).2)
 | .one k a,ns => (if k = 5 then (((⟨#[40,114,101,102,32]⟩:ByteArray) ++ (txt a ns).1) ++ (⟨#[41]⟩:ByteArray)) else (((⟨#[40,108,105,115,116,32]⟩:ByteArray) ++ (txt a ns).1) ++ (⟨#[41]⟩:ByteArray)),(txt a ns).2)
theorem place_le (ns:List Int) (v:Int):place ns v <= ns.length:= by
 induction ns with
 | nil => simp [place]
 | cons x xs ih =>
  simp only [place,List.length_cons]
  split <;> omega
theorem z1:(⟨#[40]⟩:ByteArray).size = 1:= rfl
theorem z2:(⟨#[41]⟩:ByteArray).size = 1:= rfl
theorem z3:(⟨#[39]⟩:ByteArray).size = 1:= rfl
theorem z4:(⟨#[32,45,62,32]⟩:ByteArray).size = 4:= rfl
theorem z5:(⟨#[32,42,32]⟩:ByteArray).size = 3:= rfl
theorem z6:(⟨#[40,114,101,102,32]⟩:ByteArray).size = 5:= rfl
theorem z7:(⟨#[40,108,105,115,116,32]⟩:ByteArray).size = 6:= rfl
theorem z8:(⟨#[105,110,116]⟩:ByteArray).size = 3:= rfl
theorem txt_len (T:Ty):∀ ns,(txt T ns).2.length <= ns.length + sz T:= by
 induction T with
 | free v => intro ns; simp only [txt,sz]; split <;> simp
 | int => intro ns; simp only [txt,sz]; omega
 | two k a b iha ihb =>
  intro ns
  have h1:= iha ns
  have h2:= ihb (txt a ns).2
  simp only [txt,sz]; omega
 | one k a iha =>
  intro ns
  have h1:= iha ns
  simp only [txt,sz]; omega
theorem txt_size (T:Ty):∀ ns,ns.length + sz T <= 1000 -> (txt T ns).1.size <= 32 * sz T:= by
 induction T with
 | free v =>
  intro ns h
  have h1:= place_le ns v
  have h2:= decM_size (place ns v:Nat) (by omega) (by omega)
  simp only [txt,quo,sz,ByteArray.size_append,z3]; omega
 | int => intro ns h; simp only [txt,sz,z8]; omega
 | two k a b iha ihb =>
  intro ns h
  simp only [sz] at h
  have h0:= txt_len a ns
  have h1:= iha ns (by omega)
  have h2:= ihb (txt a ns).2 (by omega)
  simp only [txt,sz]
  split <;> simp only [ByteArray.size_append,z1,z2,z4,z5] <;> omega
 | one k a iha =>
  intro ns h
  simp only [sz] at h
  have h1:= iha ns (by omega)
  simp only [txt,sz]
  split <;> simp only [ByteArray.size_append,z6,z2,z7] <;> omega
theorem seek_name (v:Int) (ns:List Int) (hn:ns.length <= 1000) (m:Nat):∀ j:Nat,j + m = ns.length ->
  Ev (fun k => seek k ns v j) (if v ∈ ns.drop j then some ((j + place (ns.drop j) v:Nat):Int) else none):= by
 induction m with
 | zero =>
  intro j hj
  have c:¬ (j:Int) < (ns.length:Int):= by omega
  apply ev_step
  rw [List.drop_of_length_le (by omega)]
  simp only [seek,if_neg c]
  exact ev_eq (ev_const _) (by simp)
 | succ m ih =>
  intro j hj
  have c:(j:Int) < (ns.length:Int):= by omega
  have c0:0 <= (j:Int):= Int.natCast_nonneg j
  apply ev_step
  simp only [seek,if_pos c,if_pos c0,rd_get ns j (by omega),wrap_next j (by omega)]
  rw [List.drop_eq_getElem_cons (show j < ns.length by omega)]
  by_cases e:ns[j] = v
  ·simp only [if_pos e]
   refine ev_eq (ev_const _) ?_
   simp [place,e]
  ·simp only [if_neg e]
   refine ev_eq (ih (j + 1) (by omega)) ?_
   have e':¬ v = ns[j]:= fun h => e h.symm
   simp only [place,if_neg e,List.mem_cons,e',false_or]
   rw [show j + 1 + place (ns.drop (j + 1)) v = j + (place (ns.drop (j + 1)) v + 1) by omega]
theorem chase_root (t:List S55) (i j:Nat) (h:Root t i j):Ev (fun k => chase k t (i:Int)) (j:Int):= by
 induction h with
 | here i h hb =>
  have c:(i:Int) < (t.length:Int):= by omega
  have c0:0 <= (i:Int):= Int.natCast_nonneg i
  apply ev_step
  simp only [chase,if_pos c,if_pos c0,rdT_get t i h]
  by_cases h0:t[i].f0 = 0
  ·have h1:¬ t[i].f1 >= 0:= fun h1 => hb ⟨h0,h1⟩
   simp only [if_pos h0,if_neg h1]
   exact ev_const _
  ·simp only [if_neg h0]
   exact ev_const _
 | next i h j hb _ ih =>
  have c:(i:Int) < (t.length:Int):= by omega
  have c0:0 <= (i:Int):= Int.natCast_nonneg i
  unfold Bound at hb
  rw [show ((t[i].f1.toNat:Nat):Int) = t[i].f1 by omega] at ih
  apply ev_step
  simp only [chase,if_pos c,if_pos c0,rdT_get t i h,if_pos hb.1,if_pos hb.2]
  exact ih
theorem dec_impl (n:Int) (h0:-9223372036854775808 <= n) (h1:n <= 9223372036854775807):impl_Dec.f n = some (decM n):= by
 unfold impl_Dec.f strconv_Itoa_49.f
 rw [if_pos h0,if_pos h1]
 rfl
theorem cat_ok {a b:ByteArray} (h:a.size + b.size <= 9223372036854775807):cat a b = some (a ++ b):= by unfold cat; rw [if_pos h]
theorem impl_show (t:List S55) (T:Ty):∀ i,Reads t i T -> ∀ ns:List Int,ns.length + sz T <= 1000 -> Ev (fun k => shower k t ns (i:Int)) (txt T ns):= by
 induction T with
 | free v =>
  intro i hr ns hs
  obtain ⟨j,h2,h3,hj,hb⟩:= reads_root hr
  apply ev_step
  simp only [shower]
  refine ev_bind (chase_root t i j h2) ?_
  simp only [rdT_get t j hj]
  cases h3 with
  | free _ _ h4 _ =>
   simp only [sz] at hs
   have n1:¬ t[v].f0 = 1:= by omega
   have n2:¬ t[v].f0 = 2:= by omega
   have n3:¬ t[v].f0 = 3:= by omega
   have n4:¬ t[v].f0 = 4:= by omega
   have n5:¬ t[v].f0 = 5:= by omega
   simp only [if_neg n1,if_neg n2,if_neg n3,if_neg n4,if_neg n5]
   have:= seek_name (v:Int) ns (by omega) ns.length 0 (by omega)
   rw [List.drop_zero,Nat.zero_add] at this
   refine ev_bind this ?_
   have hp:= place_le ns v
   have hs:= decM_size (place ns v:Nat) (by omega) (by omega)
   simp only [txt]
   by_cases m:(v:Int) ∈ ns
   ·simp only [if_pos m]
    rw [dec_impl _ (by omega) (by omega),Option.bind_some,cat_ok (by rw [z3]; omega)]
    exact ev_const _
   ·simp only [if_neg m]
    have hpl:place ns v = ns.length:= by
     clear this hs hr h2 hp
     induction ns with
     | nil => rfl
     | cons x xs ih =>
      simp only [List.mem_cons,not_or] at m
      simp only [place,if_neg (fun h:x = (v:Int) => m.1 h.symm),List.length_cons]
      rw [ih (by simp at *; omega) m.2]
    rw [if_pos (by omega),show wrap64 (ns.length:Int) = (ns.length:Int) by unfold wrap64; omega,<- hpl,dec_impl _ (by omega) (by omega),Option.bind_some,cat_ok (by rw [z3]; omega)]
    exact ev_const _
  | bound _ _ _ h4 _ => exact absurd h4 hb
 | int =>
  intro i hr ns hs
  obtain ⟨j,h2,h3,hj,hb⟩:= reads_root hr
  apply ev_step
  simp only [shower]
  refine ev_bind (chase_root t i j h2) ?_
  simp only [rdT_get t j hj]
  cases h3 with
  | int _ _ h4 =>
   simp only [if_pos h4]
   exact ev_const _
  | bound _ _ _ h4 _ => exact absurd h4 hb
 | two kk a b iha ihb =>
  intro i hr ns hs
  obtain ⟨j,h2,h3,hj,hb⟩:= reads_root hr
  apply ev_step
  simp only [shower]
  refine ev_bind (chase_root t i j h2) ?_
  simp only [rdT_get t j hj]
  generalize hK:Ty.two kk a b = K at h3
  cases h3 with
  | two _ _ a' b' h4 g1 g2 ha hbb =>
   injection hK with e1 e2 e3
   subst e2 e3
   simp only [sz] at hs
   have l0:= txt_len a ns
   have s1:= txt_size a ns (by omega)
   have s2:= txt_size b (txt a ns).2 (by omega)
   have q1:= iha _ ha ns (by omega)
   rw [show ((t[j].f1.toNat:Nat):Int) = t[j].f1 by omega] at q1
   have q2:= ihb _ hbb (txt a ns).2 (by omega)
   rw [show ((t[j].f2.toNat:Nat):Int) = t[j].f2 by omega] at q2
   have n1:¬ t[j].f0 = 1:= by omega
   simp only [if_neg n1,txt,e1]
   by_cases k2:t[j].f0 = 2
   ·simp only [if_pos k2]
    refine ev_bind q1 (ev_bind q2 ?_)
    unfold show2
    rw [cat_ok (by rw [z1]; omega),Option.bind_some,cat_ok (by simp only [ByteArray.size_append,z1,z4]; omega),Option.bind_some,cat_ok (by simp only [ByteArray.size_append,z1,z4]; omega),Option.bind_some,cat_ok (by simp only [ByteArray.size_append,z1,z4,z2]; omega),Option.bind_some]
    exact ev_const _
   ·have k3:t[j].f0 = 3:= by omega
    simp only [if_neg k2,if_pos k3]
    refine ev_bind q1 (ev_bind q2 ?_)
    unfold show2
    rw [cat_ok (by rw [z1]; omega),Option.bind_some,cat_ok (by simp only [ByteArray.size_append,z1,z5]; omega),Option.bind_some,cat_ok (by simp only [ByteArray.size_append,z1,z5]; omega),Option.bind_some,cat_ok (by simp only [ByteArray.size_append,z1,z5,z2]; omega),Option.bind_some]
    exact ev_const _
  | bound _ _ _ h4 _ => exact absurd h4 hb
  | free _ _ _ _ => cases hK
  | int _ _ _ => cases hK
  | one _ _ _ _ _ _ => cases hK
 | one kk a iha =>
  intro i hr ns hs
  obtain ⟨j,h2,h3,hj,hb⟩:= reads_root hr
  apply ev_step
  simp only [shower]
  refine ev_bind (chase_root t i j h2) ?_
  simp only [rdT_get t j hj]
  generalize hK:Ty.one kk a = K at h3
  cases h3 with
  | one _ _ a' h4 g1 ha =>
   injection hK with e1 e2
   subst e2
   simp only [sz] at hs
   have s1:= txt_size a ns (by omega)
   have q1:= iha _ ha ns (by omega)
   rw [show ((t[j].f1.toNat:Nat):Int) = t[j].f1 by omega] at q1
   have n1:¬ t[j].f0 = 1:= by omega
   have n2:¬ t[j].f0 = 2:= by omega
   have n3:¬ t[j].f0 = 3:= by omega
   simp only [if_neg n1,if_neg n2,if_neg n3,txt,e1]
   by_cases k4:t[j].f0 = 4
   ·have k5:¬ t[j].f0 = 5:= by omega
    simp only [if_pos k4,if_neg k5]
    refine ev_bind q1 ?_
    unfold show1
    rw [cat_ok (by rw [z7]; omega),Option.bind_some,cat_ok (by simp only [ByteArray.size_append,z7,z2]; omega),Option.bind_some]
    exact ev_const _
   ·have k5:t[j].f0 = 5:= by omega
    simp only [if_neg k4,if_pos k5]
    refine ev_bind q1 ?_
    unfold show1
    rw [cat_ok (by rw [z6]; omega),Option.bind_some,cat_ok (by simp only [ByteArray.size_append,z6,z2]; omega),Option.bind_some]
    exact ev_const _
  | bound _ _ _ h4 _ => exact absurd h4 hb
  | free _ _ _ _ => cases hK
  | int _ _ _ => cases hK
  | two _ _ _ _ _ _ _ _ _ => cases hK
theorem showtype_impl (t:List S55) (hn:t.length <= 1048576) (i:Int):∃ r q,Ev (fun k => spec_SizeOf.f k t i) r /\ Ev (fun k => impl_SizeOf.f k t i) r /\ Ev (fun k => impl_ShowType.f k t i) q /\
  ((r = 0 /\ q = (⟨#[]⟩:ByteArray) /\ ¬ (table t = true /\ 0 <= i /\ i < t.length)) \/ (table t = true /\ 0 <= i /\ i < t.length /\ ∃ T,Reads t i.toNat T /\ r = least (sz T) 60 /\ q = if sz T <= 60 then (txt T []).1 else (⟨#[]⟩:ByteArray))):= by
 obtain ⟨r,e1,e2,h⟩:= sizes_both t hn i
 unfold impl_ShowType.f
 rcases h with ⟨rfl,h⟩ | ⟨h1,h2,h3,T,hT,rfl⟩
 ·refine ⟨0,_,e1,e2,ev_bind e2 ?_,Or.inl ⟨rfl,rfl,h⟩⟩
  rw [in_same,in_some]; simp only [Option.bind_some]; exact ev_const _
 ·by_cases c:sz T <= 60
  ·have hp:= sz_pos T
   have d:decide (least (sz T) 60 >= 1 /\ least (sz T) 60 <= 60) = true:= decide_eq_true (by unfold least; split <;> omega)
   have hi:((i.toNat:Nat):Int) = i:= by omega
   have q2:= impl_show t T i.toNat hT [] (by simp; omega)
   rw [hi] at q2
   refine ⟨_,(txt T []).1,e1,e2,ev_bind e2 ?_,Or.inr ⟨h1,h2,h3,T,hT,rfl,by rw [if_pos c]⟩⟩
   rw [in_same,in_some]
   simp only [Option.bind_some,d,if_true]
   unfold impl_showType.f showTypeF
   exact ev_bind (ev_bind q2 (ev_const _)) (ev_const _)
  ·have d:decide (least (sz T) 60 >= 1 /\ least (sz T) 60 <= 60) = false:= decide_eq_false (by unfold least; split <;> omega)
   refine ⟨_,_,e1,e2,ev_bind e2 ?_,Or.inr ⟨h1,h2,h3,T,hT,rfl,by rw [if_neg c]⟩⟩
   rw [in_same,in_some]
   simp only [Option.bind_some,d,Bool.false_eq_true,if_false]
   exact ev_const _
theorem draw_size (c:List Int) (hc:c.length <= 1048576):∃ t i,Ev (fun k => spec_DrawSizeOf.f k c) (t,i) /\ t.length <= 1000:= by
 obtain ⟨h,e⟩:= new_ev c hc
 obtain ⟨t,j,g,e2,ht,q⟩:= draw_table c hc 0 h (cur0 c)
 obtain ⟨x,j2,g2,e3,_⟩:= draw_pick c hc j g q t
 refine ⟨t,x,?_,ht⟩
 unfold spec_DrawSizeOf.f
 refine ev_bind e (ev_bind e2 ?_)
 simp only [e3,Option.bind_some]
 exact ev_const _
theorem nil_iff (s:ByteArray):s.toList = [] ↔ s.size = 0:= by
 rw [ByteArray.toList_eq]
 have e:s.size = s.data.toList.length:= rfl
 rw [e,List.length_eq_zero_iff]
theorem txt_some (T:Ty) (ns:List Int):¬ (txt T ns).1.toList = []:= by
 rw [nil_iff]
 cases T with
 | free v => simp only [txt,quo,ByteArray.size_append,z3]; omega
 | int => simp only [txt,z8]; omega
 | two k a b =>
  simp only [txt]
  split <;> simp only [ByteArray.size_append,z1] <;> omega
 | one k a =>
  simp only [txt]
  split <;> simp only [ByteArray.size_append,z6,z7] <;> omega
theorem size_at (t:List S55) (hn:t.length <= 1048576) (ht:table t = true) (x:Int) (hx:0 <= x) (T:Ty) (hT:Reads t x.toNat T):Ev (fun k => impl_SizeOf.f k t x) (least (sz T) 60):= by
 have hlt:= reads_lt hT
 have hii:((x.toNat:Nat):Int) = x:= by omega
 unfold impl_SizeOf.f
 refine ev_bind (impl_table t hn) ?_
 have hi:0 <= x /\ x < (t.length:Int):= by omega
 simp only [ht,if_true,in_same,in_len t.length hn,Option.bind_some,inr,decide_eq_true hi,impl_sizeOf.f]
 have:= impl_size t T x.toNat hT 60 (by omega) (by omega)
 rw [hii] at this
 refine ev_bind (ev_bind this (ev_const _)) ?_
 refine ev_eq (ev_const _) ?_
 have:= least_le (sz T) 60
 unfold mn
 split <;> omega
theorem FnSizes:Pure:= by
 intro c ⟨_,hb⟩
 refine Ev.rounds ?_
 unfold laws_FnSizes.f laws_big.f
 simp only [Option.bind_some]
 by_cases big:(c.length:Int) > 1048576
 ·simp only [decide_eq_true big,if_true]
  exact ev_const true
 ·simp only [decide_eq_false big,Bool.false_eq_true,if_false]
  obtain ⟨t,i,e,hn⟩:= draw_size c (by omega)
  refine ev_bind e ?_
  have hn':t.length <= 1048576:= by omega
  obtain ⟨r,q,s1,s2,s4,h⟩:= showtype_impl t hn' i
  refine ev_bind s2 (ev_bind s1 ?_)
  simp only [if_true]
  refine ev_bind s4 ?_
  rcases h with ⟨rfl,rfl,h⟩ | ⟨ht,h0,h1,T,hT,rfl,rfl⟩
  ·have nn:((⟨#[]⟩:ByteArray).toList != ([]:List UInt8)) = false:= by
    rw [(nil_iff _).2 rfl]; rfl
   simp only [ge_iff_le,Int.reduceLE,if_false,nn]
   apply ev_step
   simp only [laws_FnSizes.j0,bne_self_eq_false,Bool.false_eq_true,if_false,if_true]
   refine ev_bind (spec_table t hn') ?_
   cases ht:table t
   ·simp only [Bool.false_eq_true,if_false]; exact ev_const _
   ·simp only [if_true]
    by_cases hi:i < 0
    ·simp only [if_pos hi]; exact ev_const _
    ·simp only [if_neg hi]
     refine ev_eq (ev_const _) (decide_eq_true ?_)
     have:¬ i < (t.length:Int):= fun q => h ⟨ht,by omega,q⟩
     omega
  ·have hp:= sz_pos T
   have lp:= least_pos (sz T) 60 hp (by omega)
   have ll:= least_le (sz T) 60
   have ne:¬ least (sz T) 60 = 0:= by omega
   have mark:(((if sz T <= 60 then (txt T []).1 else (⟨#[]⟩:ByteArray)).toList != ([]:List UInt8)) != (decide (least (sz T) 60 <= 60))) = false:= by
    by_cases z:sz T <= 60
    ·have zz:least (sz T) 60 <= 60:= by unfold least; split <;> omega
     rw [if_pos z,decide_eq_true zz,bne_iff_ne.2 (txt_some T [])]
     rfl
    ·have zz:¬ least (sz T) 60 <= 60:= by unfold least; split <;> omega
     rw [if_neg z,decide_eq_false zz,(nil_iff _).2 rfl]
     rfl
   simp only [ge_iff_le,lp,if_true,mark]
   obtain ⟨n,rfl⟩:∃ n:Nat,i = n:= ⟨i.toNat,by omega⟩
   rw [Int.toNat_natCast] at hT
   have hnl:n < t.length:= by omega
   apply ev_step
   simp only [laws_FnSizes.j0,Bool.false_eq_true,if_false,if_neg ne,if_pos h0,if_pos h1,rdT_get t n hnl]
   cases hT with
   | free _ _ h4 h5 =>
    have h6:¬ t[n].f1 >= 0:= by omega
    simp only [if_pos h4,if_neg h6]
    exact ev_const _
   | bound _ _ _ hb hT2 =>
    unfold Bound at hb
    simp only [if_pos hb.1,if_pos hb.2]
    refine ev_bind (size_at t hn' ht _ hb.2 T hT2) ?_
    refine ev_eq (ev_const _) (beq_iff_eq.2 ?_)
    unfold mn; split <;> omega
   | int _ _ h4 =>
    have n0:¬ t[n].f0 = 0:= by omega
    have n2:¬ t[n].f0 = 2:= by omega
    have n3:(t[n].f0 == 3) = false:= beq_eq_false_iff_ne.2 (by omega)
    have n4:¬ t[n].f0 = 4:= by omega
    have n5:¬ t[n].f0 = 5:= by omega
    simp only [if_neg n0,if_neg n2,n3]
    apply ev_step
    simp only [laws_FnSizes.j1,Bool.false_eq_true,if_false,if_neg n4,if_neg n5]
    exact ev_const _
   | two _ _ a b h4 g1 g2 ha hb =>
    have n0:¬ t[n].f0 = 0:= by omega
    have go:Ev (fun k => laws_FnSizes.j1 k t (least (sz (.two t[n].f0 a b)) 60) 1 t[n].f0 true t[n].f0 t[n].f1 t[n].f2) true:= by
     apply ev_step
     simp only [laws_FnSizes.j1,if_true]
     refine ev_bind (size_at t hn' ht _ g1 a ha) (ev_bind (size_at t hn' ht _ g2 b hb) ?_)
     refine ev_eq (ev_const _) (beq_iff_eq.2 ?_)
     have p1:= least_le (sz a) 60
     have p2:= least_pos (sz a) 60 (sz_pos a) (by omega)
     have p3:= least_le (sz b) 60
     have p4:= least_pos (sz b) 60 (sz_pos b) (by omega)
     rw [add_wrap 1 _ (by omega) (by omega),add_wrap (1 + least (sz a) 60) _ (by omega) (by omega)]
     unfold mn least
     simp only [sz]
     repeat' split
     all_goals omega
    simp only [if_neg n0]
    by_cases n2:t[n].f0 = 2
    ·simp only [if_pos n2]
     rw [beq_iff_eq.2 n2]
     exact go
    ·have n3:(t[n].f0 == 3) = true:= beq_iff_eq.2 (by omega)
     simp only [if_neg n2,n3]
     exact go
   | one _ _ a h4 g1 ha =>
    have n0:¬ t[n].f0 = 0:= by omega
    have n2:¬ t[n].f0 = 2:= by omega
    have n3:(t[n].f0 == 3) = false:= beq_eq_false_iff_ne.2 (by omega)
    simp only [if_neg n0,if_neg n2,n3]
    apply ev_step
    simp only [laws_FnSizes.j1,Bool.false_eq_true,if_false]
    have fin:Ev (fun k => (impl_SizeOf.f k t t[n].f1).bind fun t315 => some (least (sz (.one t[n].f0 a)) 60 == mn (wrap64 (1 + t315)) 61)) true:= by
     refine ev_bind (size_at t hn' ht _ g1 a ha) ?_
     refine ev_eq (ev_const _) (beq_iff_eq.2 ?_)
     have p1:= least_le (sz a) 60
     have p2:= least_pos (sz a) 60 (sz_pos a) (by omega)
     rw [add_wrap 1 _ (by omega) (by omega)]
     unfold mn least
     simp only [sz]
     repeat' split
     all_goals omega
    by_cases n4:t[n].f0 = 4
    ·simp only [if_pos n4]
     exact fin
    ·have n5:t[n].f0 = 5:= by omega
     simp only [if_neg n4,if_pos n5]
     exact fin
end Go.Proofs.YtlhofeikcaejpaaDoor.Pure

