/- PureFnValues, of the words and walks that the law FnValues needs; made by this session's program out of printed texts. -/

import Derived.Test.YtlhofeikcaejpaaDoorVFnValuesSay
import Derived.Laws.Strings
import Derived.Laws.BitsLemmas
set_option linter.unusedVariables false
set_option linter.unusedSimpArgs false
set_option linter.unusedSectionVars false
namespace Go.Proofs.YtlhofeikcaejpaaDoor.Pure
open Go.RowKit Go.Proofs.YtlhofeikcaejpaaDoor.PFnValues Go.Proofs.YtlhofeikcaejpaaDoorW.PrintWords Go.Proofs.YtlhofeikcaejpaaDoorW.PrintLast Go.Proofs.YtlhofeikcaejpaaDoor.SayFnValues
theorem wrap_next (i:Nat) (h:i < 4611686018427387904):wrap64 ((i:Int) + 1) = ((i + 1:Nat):Int):= by unfold wrap64; omega
theorem ev_step {α:Type} {g:Nat -> Option α} {r:α} (h:Ev (fun k => g (k + 1)) r):Ev g r:= Ev.step (fun _ => rfl) h
theorem ev_bind {α β:Type} {g:Nat -> Option α} {f:Nat -> α -> Option β} {a:α} {r:β} (h:Ev g a) (k:Ev (fun n => f n a) r):Ev (fun n => (g n).bind (f n)) r:= Ev.bind h k
theorem ev_const {α:Type} (r:α):Ev (fun _ => some r) r:= Ev.now r
theorem ev_at {α:Type} {g:Nat -> Option α} {r:α} (n:Nat) (h:∀ k,n <= k -> g k = some r):Ev g r:= ⟨n,h⟩
theorem ev_eq {α:Type} {g:Nat -> Option α} {r q:α} (h:Ev g r) (e:r = q):Ev g q:= e ▸ h
theorem and255 (n:Int):Go.bits .and .i64 n 255 = n % 256:= by
 have h:(BitVec.ofInt 64 255).toNat = 2 ^ 8 - 1:= by decide
 have key:(BitVec.ofInt 64 n &&& BitVec.ofInt 64 255).toNat = (n % ((2 ^ 64:Nat):Int)).toNat % 2 ^ 8:= by
  rw [BitVec.toNat_and,BitVec.toNat_ofInt,h,Nat.and_two_pow_sub_one_eq_mod]
 show IntKind.i64.wrap ((BitVec.ofInt 64 n &&& BitVec.ofInt 64 255).toNat:Nat) = n % 256
 rw [key,IntKind.wrap_i64]
 omega
def Cur (c:List Int) (i:Int):Prop:= 0 <= i /\ i <= c.length
theorem new_loop (c:List Int) (hc:c.length <= 1048576) (d:Nat):∀ (i:Nat) (x:Int),i + d = c.length -> ∃ h,Ev (fun k => spec_l1New.l0 k c x (i:Int)) (c,0,h):= by
 induction d with
 | zero =>
  intro i x hi
  refine ⟨x,ev_step ?_⟩
  simp only [spec_l1New.l0,if_neg (show ¬ (i:Int) < (c.length:Int) by omega)]
  exact ev_const _
 | succ d ih =>
  intro i x hi
  have h1:(i:Int) < (c.length:Int):= by omega
  have h0:0 <= (i:Int):= Int.natCast_nonneg i
  by_cases h4:(i:Int) < 4000
  ·obtain ⟨h,q⟩:= ih (i + 1) (Go.bits .and .i64 (wrap64 ((wrap64 ((wrap64 (x * 131)) + (wrap64 (rd c (i:Int))))) + 7)) 1073741823) (by omega)
   refine ⟨h,ev_step ?_⟩
   simp only [spec_l1New.l0,if_pos h1,if_pos h4,if_pos h0,wrap_next i (by omega)]
   exact q
  ·refine ⟨x,ev_step ?_⟩
   simp only [spec_l1New.l0,if_pos h1,if_neg h4]
   exact ev_const _
theorem new_ev (c:List Int) (hc:c.length <= 1048576):∃ h,Ev (fun k => spec_l1New.f k c) (c,0,h):= new_loop c hc c.length 0 _ (by omega)
theorem cur0 (c:List Int):Cur c 0:= ⟨by omega,by omega⟩
theorem byte_ok (c:List Int) (hc:c.length <= 1048576) (i h:Int) (hi:Cur c i):∃ x j g,spec_l1Byte.f c i h = some (x,j,g) /\ 0 <= x /\ x <= 255 /\ Cur c j:= by
 obtain ⟨h0,h1⟩:= hi
 unfold spec_l1Byte.f
 by_cases z:i < (c.length:Int)
 ·have w:wrap64 (i + 1) = i + 1:= by unfold wrap64; omega
  simp only [if_pos z,if_pos h0,w,and255]
  exact ⟨_,_,_,rfl,by omega,by omega,by omega,by omega⟩
 ·simp only [if_neg z,and255]
  exact ⟨_,_,_,rfl,by omega,by omega,h0,h1⟩
theorem below_ok (c:List Int) (hc:c.length <= 1048576) (i h:Int) (hi:Cur c i) (n:Int):∃ x j g,spec_l1Below.f c i h n = some (x,j,g) /\ 0 <= x /\ (0 < n -> x < n) /\ (n <= 0 -> x = 0) /\ Cur c j:= by
 unfold spec_l1Below.f
 by_cases z:n <= 0
 ·rw [if_pos z]
  exact ⟨_,_,_,rfl,by omega,fun q => by omega,fun _ => rfl,hi⟩
 ·rw [if_neg z]
  have z0:¬ n = 0:= by omega
  by_cases z2:n <= 256
  ·rw [if_pos z2]
   obtain ⟨x,j,g,e,h0,h1,h2⟩:= byte_ok c hc i h hi
   rw [e]
   simp only [Option.bind_some,if_neg z0]
   refine ⟨_,_,_,rfl,?_,fun _ => ?_,fun q => by omega,h2⟩
   ·exact Int.tmod_nonneg _ h0
   ·rw [Int.tmod_eq_emod_of_nonneg h0]; exact Int.emod_lt_of_pos _ (by omega)
  ·rw [if_neg z2]
   obtain ⟨x,j,g,e,h0,h1,h2⟩:= byte_ok c hc i h hi
   rw [e]; simp only [Option.bind_some]
   obtain ⟨x2,j2,g2,e,h02,h12,h22⟩:= byte_ok c hc j g h2
   rw [e]; simp only [Option.bind_some]
   obtain ⟨x3,j3,g3,e,h03,h13,h23⟩:= byte_ok c hc j2 g2 h22
   rw [e]; simp only [Option.bind_some]
   obtain ⟨x4,j4,g4,e,h04,h14,h24⟩:= byte_ok c hc j3 g3 h23
   rw [e]; simp only [Option.bind_some,if_neg z0]
   have w:wrap64 ((wrap64 ((wrap64 ((wrap64 (x * 16777216)) + (wrap64 (x2 * 65536)))) + (wrap64 (x3 * 256)))) + x4) = x * 16777216 + x2 * 65536 + x3 * 256 + x4:= by unfold wrap64; omega
   rw [w]
   have hp:0 <= x * 16777216 + x2 * 65536 + x3 * 256 + x4:= by omega
   refine ⟨_,_,_,rfl,Int.tmod_nonneg _ hp,fun _ => ?_,fun q => by omega,h24⟩
   rw [Int.tmod_eq_emod_of_nonneg hp]; exact Int.emod_lt_of_pos _ (by omega)
theorem in_same (a b c:Int):impl_in.f a b c = spec_l1In.f a b c:= rfl
theorem in_some (a b c:Int):spec_l1In.f a b c = some (decide (a >= b /\ a <= c)):= by
 unfold spec_l1In.f
 by_cases h:a >= b
 ·simp [h]
 ·simp [h]
theorem valok_both (a:List S41) (b:List S86) (c:List S47) (d:List S35) (v n:Int) (k:Nat) (hk:1 <= k):∃ r,spec_ValOk.f k a b c d v n = some r /\ impl_ValOk.f k a b c d v n = some r:= by
 obtain ⟨k,rfl⟩:∃ m,k = m + 1:= ⟨k - 1,by omega⟩
 simp only [spec_ValOk.f,impl_ValOk.f,spec_ValOk.j0,impl_ValOk.j0,in_same,in_some,Option.bind_some]
 by_cases h0:v = 0
 ·simp [h0]
 ·by_cases h1:v = 1
  ·simp [h1]
  ·by_cases h2:v = 2
   ·simp [h2]
   ·by_cases h3:v = 3
    ·simp [h3]
    ·by_cases h4:v = 4
     ·simp [h4]
     ·by_cases h5:v = 5
      ·simp [h5]
      ·simp [h0,h1,h2,h3,h4,h5]
section
variable (a:List S41) (b:List S86) (c:List S47) (d:List S35)
theorem heap3 (hn:d.length <= 1048576) (m:Nat):∀ k (i:Nat),i + m = d.length -> m + 1 < k -> ∃ r,spec_HeapOk.l3 k i a b c d = some r /\ impl_HeapOk.l3 k d (d.length:Int) i a b c d = some r:= by
 induction m with
 | zero =>
  intro k i hd hk
  obtain ⟨k,rfl⟩:∃ m,k = m + 1:= ⟨k - 1,by omega⟩
  have cn:¬ (i:Int) < (d.length:Int):= by omega
  simp only [spec_HeapOk.l3,impl_HeapOk.l3,if_neg cn]
  exact ⟨true,rfl,rfl⟩
 | succ m ih =>
  intro k i hd hk
  obtain ⟨k,rfl⟩:∃ m,k = m + 1:= ⟨k - 1,by omega⟩
  have c1:(i:Int) < (d.length:Int):= by omega
  have c0:0 <= (i:Int):= Int.natCast_nonneg i
  simp only [spec_HeapOk.l3,impl_HeapOk.l3,if_pos c1,if_pos c0,wrap_next i (by omega)]
  obtain ⟨r,h1,h2⟩:= ih k (i + 1) (by omega) (by omega)
  obtain ⟨q,h3,h4⟩:= valok_both a b c d (rd_T35 d i).f0 (rd_T35 d i).f1 k (by omega)
  rw [h1,h2,h3,h4]
  cases q
  ·exact ⟨false,rfl,rfl⟩
  ·exact ⟨r,rfl,rfl⟩
theorem heap2 (hn:c.length <= 1048576) (hn3:d.length <= 1048576) (m:Nat):∀ k (i:Nat),i + m = c.length -> m + d.length + 2 < k -> ∃ r,spec_HeapOk.l2 k i a b c d = some r /\ impl_HeapOk.l2 k c (c.length:Int) i a b c d = some r:= by
 induction m with
 | zero =>
  intro k i hd hk
  obtain ⟨k,rfl⟩:∃ m,k = m + 1:= ⟨k - 1,by omega⟩
  have cn:¬ (i:Int) < (c.length:Int):= by omega
  simp only [spec_HeapOk.l2,impl_HeapOk.l2,if_neg cn]
  exact heap3 a b c d hn3 d.length k 0 (by omega) (by omega)
 | succ m ih =>
  intro k i hd hk
  obtain ⟨k,rfl⟩:∃ m,k = m + 1:= ⟨k - 1,by omega⟩
  have c1:(i:Int) < (c.length:Int):= by omega
  have c0:0 <= (i:Int):= Int.natCast_nonneg i
  simp only [spec_HeapOk.l2,impl_HeapOk.l2,if_pos c1,if_pos c0,wrap_next i (by omega)]
  obtain ⟨r,h1,h2⟩:= ih k (i + 1) (by omega) (by omega)
  obtain ⟨q,h3,h4⟩:= valok_both a b c d (rd_T47 c i).f0.f0 (rd_T47 c i).f0.f1 k (by omega)
  obtain ⟨q',h5,h6⟩:= valok_both a b c d (rd_T47 c i).f1.f0 (rd_T47 c i).f1.f1 k (by omega)
  rw [h1,h2,h3,h4,h5,h6]
  cases q
  ·exact ⟨false,rfl,rfl⟩
  ·cases q'
   ·exact ⟨false,rfl,rfl⟩
   ·exact ⟨r,rfl,rfl⟩
theorem heap1 (hn1:b.length <= 1048576) (hn:c.length <= 1048576) (hn3:d.length <= 1048576) (m:Nat):∀ k (i:Nat),i + m = b.length -> m + c.length + d.length + 3 < k -> ∃ r,spec_HeapOk.l1 k i a b c d = some r /\ impl_HeapOk.l1 k b (b.length:Int) i a b c d = some r:= by
 induction m with
 | zero =>
  intro k i hd hk
  obtain ⟨k,rfl⟩:∃ m,k = m + 1:= ⟨k - 1,by omega⟩
  have cn:¬ (i:Int) < (b.length:Int):= by omega
  simp only [spec_HeapOk.l1,impl_HeapOk.l1,if_neg cn]
  exact heap2 a b c d hn hn3 c.length k 0 (by omega) (by omega)
 | succ m ih =>
  intro k i hd hk
  obtain ⟨k,rfl⟩:∃ m,k = m + 1:= ⟨k - 1,by omega⟩
  have c1:(i:Int) < (b.length:Int):= by omega
  have c0:0 <= (i:Int):= Int.natCast_nonneg i
  simp only [spec_HeapOk.l1,impl_HeapOk.l1,if_pos c1,if_pos c0,wrap_next i (by omega),in_same,in_some,Option.bind_some]
  obtain ⟨r,h1,h2⟩:= ih k (i + 1) (by omega) (by omega)
  rw [h1,h2]
  split
  ·exact ⟨r,rfl,rfl⟩
  ·exact ⟨false,rfl,rfl⟩
theorem heap0 (hn0:a.length <= 1048576) (hn1:b.length <= 1048576) (hn:c.length <= 1048576) (hn3:d.length <= 1048576) (m:Nat):∀ k (i:Nat),i + m = a.length -> m + b.length + c.length + d.length + 4 < k -> ∃ r,spec_HeapOk.l0 k i a b c d = some r /\ impl_HeapOk.l0 k a (a.length:Int) i a b c d = some r:= by
 induction m with
 | zero =>
  intro k i hd hk
  obtain ⟨k,rfl⟩:∃ m,k = m + 1:= ⟨k - 1,by omega⟩
  have cn:¬ (i:Int) < (a.length:Int):= by omega
  simp only [spec_HeapOk.l0,impl_HeapOk.l0,if_neg cn]
  exact heap1 a b c d hn1 hn hn3 b.length k 0 (by omega) (by omega)
 | succ m ih =>
  intro k i hd hk
  obtain ⟨k,rfl⟩:∃ m,k = m + 1:= ⟨k - 1,by omega⟩
  have c1:(i:Int) < (a.length:Int):= by omega
  have c0:0 <= (i:Int):= Int.natCast_nonneg i
  simp only [spec_HeapOk.l0,impl_HeapOk.l0,if_pos c1,if_pos c0,wrap_next i (by omega),in_same,in_some,Option.bind_some]
  obtain ⟨r,h1,h2⟩:= ih k (i + 1) (by omega) (by omega)
  obtain ⟨q,h3,h4⟩:= valok_both a b c d (rd_T41 a i).f2.f0 (rd_T41 a i).f2.f1 k (by omega)
  rw [h1,h2,h3,h4]
  simp only [Option.bind_some]
  cases q
  ·refine ⟨false,?_,rfl⟩
   split <;> rfl
  ·split
   ·exact ⟨r,rfl,by simp⟩
   ·exact ⟨false,rfl,by simp⟩
theorem heapok_both (hn0:a.length <= 1048576) (hn1:b.length <= 1048576) (hn:c.length <= 1048576) (hn3:d.length <= 1048576) (k:Nat) (hk:5000000 < k):∃ r,spec_HeapOk.f k a b c d = some r /\ impl_HeapOk.f k a b c d = some r :=
 heap0 a b c d hn0 hn1 hn hn3 a.length k 0 (by omega) (by omega)
end
section
variable (a:List S41) (b:List S86) (c:List S47) (d:List S35)
def vOK (v n:Int):Prop:= (v = 0 /\ 0 <= n /\ n <= 65535) \/ (v = 1 /\ 0 <= n /\ n < b.length) \/ (v = 2 /\ n = 0) \/ ((v = 3 \/ v = 4) /\ 0 <= n /\ n < c.length) \/ (v = 5 /\ 0 <= n /\ n < d.length)
theorem valok_iff (hb:b.length <= 1048576) (hc:c.length <= 1048576) (hd:d.length <= 1048576) (v n:Int) (k:Nat) (r:Bool) (h:spec_ValOk.f k a b c d v n = some r):r = true ↔ vOK b c d v n:= by
 have w1:wrap64 ((b.length:Int) - 1) = (b.length:Int) - 1:= by unfold wrap64; omega
 have w2:wrap64 ((c.length:Int) - 1) = (c.length:Int) - 1:= by unfold wrap64; omega
 have w3:wrap64 ((d.length:Int) - 1) = (d.length:Int) - 1:= by unfold wrap64; omega
 unfold vOK
 simp only [spec_ValOk.f,in_some,Option.bind_some,w1] at h
 by_cases h0:v = 0
 ·simp only [if_pos h0,Option.some.injEq] at h
  subst h; simp only [decide_eq_true_eq]; omega
 ·by_cases h1:v = 1
  ·simp only [if_neg h0,if_pos h1,Option.some.injEq] at h
   subst h; simp only [decide_eq_true_eq]; omega
  ·by_cases h2:v = 2
   ·simp only [if_neg h0,if_neg h1,if_pos h2,Option.some.injEq] at h
    subst h; simp only [beq_iff_eq]; omega
   ·simp only [if_neg h0,if_neg h1,if_neg h2] at h
    cases k with
    | zero => simp only [spec_ValOk.j0] at h; split at h <;> exact absurd h (by simp)
    | succ k =>
     simp only [spec_ValOk.j0,in_some,Option.bind_some,w2,w3] at h
     by_cases h3:v = 3
     ·rw [if_pos h3,if_pos (by simp [h3])] at h
      obtain rfl:= Option.some.inj h
      simp only [decide_eq_true_eq]; omega
     ·rw [if_neg h3] at h
      by_cases h4:v = 4
      ·rw [if_pos (by simp [h4])] at h
       obtain rfl:= Option.some.inj h
       simp only [decide_eq_true_eq]; omega
      ·rw [if_neg (by simp [h4])] at h
       by_cases h5:v = 5
       ·rw [if_pos h5] at h
        obtain rfl:= Option.some.inj h
        simp only [decide_eq_true_eq]; omega
       ·rw [if_neg h5] at h
        obtain rfl:= Option.some.inj h
        simp; omega
theorem hf2 (hb:b.length <= 1048576) (hc:c.length <= 1048576) (hd:d.length <= 1048576):∀ (k i:Nat),spec_HeapOk.l2 k i a b c d = some true -> (∀ j:Nat,i <= j -> j < c.length -> vOK b c d (rd_T47 c j).f0.f0 (rd_T47 c j).f0.f1 /\ vOK b c d (rd_T47 c j).f1.f0 (rd_T47 c j).f1.f1) /\ ∃ q,spec_HeapOk.l3 q 0 a b c d = some true:= by
 intro k
 induction k with
 | zero => intro i h; simp [spec_HeapOk.l2] at h
 | succ k ih =>
  intro i h
  by_cases c1:(i:Int) < (c.length:Int)
  ·have c0:0 <= (i:Int):= Int.natCast_nonneg i
   simp only [spec_HeapOk.l2,if_pos c1,if_pos c0,wrap_next i (by omega)] at h
   obtain ⟨t,h1,h2⟩:= Option.bind_eq_some_iff.1 h
   cases t
   ·simp at h2
   ·rw [if_pos rfl] at h2
    obtain ⟨t,h3,h4⟩:= Option.bind_eq_some_iff.1 h2
    cases t
    ·simp at h4
    ·rw [if_pos rfl] at h4
     obtain ⟨g1,g2⟩:= ih (i + 1) h4
     refine ⟨fun j hi hj => ?_,g2⟩
     by_cases e:i = j
     ·subst e
      exact ⟨(valok_iff a b c d hb hc hd _ _ _ _ h1).1 rfl,(valok_iff a b c d hb hc hd _ _ _ _ h3).1 rfl⟩
     ·exact g1 j (by omega) hj
  ·simp only [spec_HeapOk.l2,if_neg c1] at h
   exact ⟨fun j hi hj => by omega,k,h⟩
theorem hf1 (ha:a.length <= 1048576) (hb:b.length <= 1048576):∀ (k i:Nat),spec_HeapOk.l1 k i a b c d = some true -> ∃ q,spec_HeapOk.l2 q 0 a b c d = some true:= by
 intro k
 induction k with
 | zero => intro i h; simp [spec_HeapOk.l1] at h
 | succ k ih =>
  intro i h
  by_cases c1:(i:Int) < (b.length:Int)
  ·have c0:0 <= (i:Int):= Int.natCast_nonneg i
   simp only [spec_HeapOk.l1,if_pos c1,if_pos c0,wrap_next i (by omega)] at h
   obtain ⟨t,h1,h2⟩:= Option.bind_eq_some_iff.1 h
   cases t
   ·simp at h2
   ·rw [if_pos rfl] at h2
    exact ih (i + 1) h2
  ·simp only [spec_HeapOk.l1,if_neg c1] at h
   exact ⟨k,h⟩
theorem hf0 (ha:a.length <= 1048576) (hb:b.length <= 1048576) (hc:c.length <= 1048576) (hd:d.length <= 1048576):∀ (k i:Nat),spec_HeapOk.l0 k i a b c d = some true -> (∀ j:Nat,i <= j -> j < a.length -> -1 <= (rd_T41 a j).f3 /\ (rd_T41 a j).f3 < j /\ vOK b c d (rd_T41 a j).f2.f0 (rd_T41 a j).f2.f1) /\ ∃ q,spec_HeapOk.l1 q 0 a b c d = some true:= by
 intro k
 induction k with
 | zero => intro i h; simp [spec_HeapOk.l0] at h
 | succ k ih =>
  intro i h
  by_cases c1:(i:Int) < (a.length:Int)
  ·have c0:0 <= (i:Int):= Int.natCast_nonneg i
   have w1:wrap64 ((i:Int) - 1) = (i:Int) - 1:= by unfold wrap64; omega
   simp only [spec_HeapOk.l0,if_pos c1,if_pos c0,wrap_next i (by omega),in_some,Option.bind_some,w1] at h
   by_cases hx:(rd_T41 a i).f3 >= -1 /\ (rd_T41 a i).f3 <= (i:Int) - 1
   ·rw [if_pos (by simpa using hx)] at h
    obtain ⟨t,h3,h4⟩:= Option.bind_eq_some_iff.1 h
    cases t
    ·simp at h4
    ·rw [if_pos rfl] at h4
     obtain ⟨g1,g2⟩:= ih (i + 1) h4
     refine ⟨fun j hi hj => ?_,g2⟩
     by_cases e:i = j
     ·subst e
      exact ⟨hx.1,by omega,(valok_iff a b c d hb hc hd _ _ _ _ h3).1 rfl⟩
     ·exact g1 j (by omega) hj
   ·rw [if_neg (by simpa using hx)] at h
    simp at h
  ·simp only [spec_HeapOk.l0,if_neg c1] at h
   exact ⟨fun j hi hj => by omega,k,h⟩
structure HOK:Prop where
 env:∀ j:Nat,j < a.length -> -1 <= (rd_T41 a j).f3 /\ (rd_T41 a j).f3 < j /\ vOK b c d (rd_T41 a j).f2.f0 (rd_T41 a j).f2.f1
 two:∀ j:Nat,j < c.length -> vOK b c d (rd_T47 c j).f0.f0 (rd_T47 c j).f0.f1 /\ vOK b c d (rd_T47 c j).f1.f0 (rd_T47 c j).f1.f1
theorem heap_facts (ha:a.length <= 1048576) (hb:b.length <= 1048576) (hc:c.length <= 1048576) (hd:d.length <= 1048576) (k:Nat) (h:spec_HeapOk.f k a b c d = some true):HOK a b c d:= by
 obtain ⟨g1,q,h1⟩:= hf0 a b c d ha hb hc hd k 0 h
 obtain ⟨q,h2⟩:= hf1 a b c d ha hb q 0 h1
 obtain ⟨g2,q,h3⟩:= hf2 a b c d hb hc hd q 0 h2
 exact ⟨fun j hj => g1 j (by omega) hj,fun j hj => g2 j (by omega) hj⟩
end
section
variable (a:List S41) (b:List S86) (c:List S47) (d:List S35)
theorem look_both (ho:HOK a b c d) (n r:Int) (m:Nat):∀ (k:Nat) (e:Int),e < a.length -> e < m -> m < k -> ∃ q,spec_l10Look.l0 k e a b c d n r = some q /\ impl_Heap_lookUp.l0 k e a b c d n r = some q:= by
 induction m with
 | zero =>
  intro k e h1 h2 hk
  obtain ⟨k,rfl⟩:∃ m,k = m + 1:= ⟨k - 1,by omega⟩
  have cn:¬ e >= 0:= by omega
  simp only [spec_l10Look.l0,impl_Heap_lookUp.l0,if_neg cn]
  exact ⟨_,rfl,rfl⟩
 | succ m ih =>
  intro k e h1 h2 hk
  obtain ⟨k,rfl⟩:∃ m,k = m + 1:= ⟨k - 1,by omega⟩
  by_cases cn:e >= 0
  ·obtain ⟨j,rfl⟩:∃ j:Nat,e = j:= ⟨e.toNat,by omega⟩
   obtain ⟨x1,x2,x3⟩:= ho.env j (by omega)
   obtain ⟨q,q1,q2⟩:= ih k (rd_T41 a j).f3 (by omega) (by omega) (by omega)
   have cn':0 <= (j:Int):= cn
   simp only [spec_l10Look.l0,impl_Heap_lookUp.l0,if_pos cn,if_pos cn',if_pos h1,q1,q2]
   split
   ·split
    ·exact ⟨_,rfl,rfl⟩
    ·exact ⟨_,rfl,rfl⟩
   ·exact ⟨_,rfl,rfl⟩
  ·simp only [spec_l10Look.l0,impl_Heap_lookUp.l0,if_neg cn]
   exact ⟨_,rfl,rfl⟩
theorem lookup_both (ha:a.length <= 1048576) (hb:b.length <= 1048576) (hc:c.length <= 1048576) (hd:d.length <= 1048576) (e n r:Int) (k:Nat) (hk:5000000 < k):∃ q,spec_LookUp.f k a b c d e n r = some q /\ impl_LookUp.f k a b c d e n r = some q:= by
 obtain ⟨q,h1,h2⟩:= heapok_both a b c d ha hb hc hd k hk
 simp only [spec_LookUp.f,impl_LookUp.f,h1,h2,Option.bind_some,in_same,in_some]
 cases q
 ·exact ⟨_,rfl,rfl⟩
 ·have w1:wrap64 ((a.length:Int) - 1) = (a.length:Int) - 1:= by unfold wrap64; omega
  rw [w1]
  by_cases hx:e >= -1 /\ e <= (a.length:Int) - 1
  ·obtain ⟨q,q1,q2⟩:= look_both a b c d (heap_facts a b c d ha hb hc hd k h1) n r a.length k e (by omega) (by omega) (by omega)
   simp only [if_true,decide_eq_true hx,spec_l10Look.f,impl_Heap_lookUp.f,q1,q2,Option.bind_some]
   exact ⟨_,rfl,rfl⟩
  ·simp only [if_true,decide_eq_false hx]
   exact ⟨_,rfl,rfl⟩
end
theorem digs (l:List UInt8):(⟨l.toArray⟩:ByteArray).size = l.length:= by simp [ByteArray.size]
theorem dec_step (u:Nat) (h:10 <= u):Lib.decDigits u = Lib.decDigits (u / 10) ++ [UInt8.ofNat (48 + u % 10)]:= by
 rw [Lib.decDigits,dif_neg (by omega)]
theorem dec_last (u:Nat) (h:u < 10):Lib.decDigits u = [UInt8.ofNat (48 + u)]:= by
 rw [Lib.decDigits,dif_pos h]
theorem dec_len (d:Nat):∀ u:Nat,u < 10 ^ d -> (Lib.decDigits u).length <= d + 1:= by
 induction d with
 | zero => intro u h; rw [dec_last u (by simp at h; omega)]; simp
 | succ d ih =>
  intro u h
  by_cases c:u < 10
  ·rw [dec_last u c]; simp
  ·rw [dec_step u (by omega),List.length_append]
   have:= ih (u / 10) (by rw [Nat.pow_succ] at h; omega)
   simp
   omega
def decM (n:Int):ByteArray:= ⟨(Lib.itoa n).toArray⟩
theorem decM_size (n:Int) (h0:-9223372036854775808 <= n) (h1:n <= 9223372036854775807):(decM n).size <= 22:= by
 unfold decM Lib.itoa
 rw [digs]
 have h10:(10:Nat) ^ 20 = 100000000000000000000:= by decide
 split
 ·have:= dec_len 20 n.natAbs (by rw [h10]; omega)
  simp
  omega
 ·have:= dec_len 20 n.toNat (by rw [h10]; omega)
  omega
theorem impl_dec (n:Int) (h0:-9223372036854775808 <= n) (h1:n <= 9223372036854775807):impl_Dec.f n = some (decM n):= by
 unfold impl_Dec.f strconv_Itoa_49.f
 rw [if_pos h0,if_pos h1]
 rfl
def leafM (v n:Int):Option ByteArray:= if v = 0 then some (decM n) else if v = 1 then some (⟨#[102,117,110]⟩:ByteArray) else if v = 2 then some (⟨#[110,105,108]⟩:ByteArray) else if v = 5 then some (⟨#[114,101,102]⟩:ByteArray) else none
def headM (v:Int):ByteArray:= if v = 3 then (⟨#[40,112,97,105,114,32]⟩:ByteArray) else (⟨#[40,99,111,110,115,32]⟩:ByteArray)
def showM (c:List S47):Nat -> Int -> Int -> ByteArray
 | 0,v,n => (leafM v n).getD (⟨#[95]⟩:ByteArray)
 | m + 1,v,n => (leafM v n).getD (((((headM v) ++ showM c m (rd_T47 c n).f0.f0 (rd_T47 c n).f0.f1) ++ (⟨#[32]⟩:ByteArray)) ++ showM c m (rd_T47 c n).f1.f0 (rd_T47 c n).f1.f1) ++ (⟨#[41]⟩:ByteArray))
section
variable (a:List S41) (b:List S86) (c:List S47) (d:List S35)
theorem leaf_none {v n:Int} (h:vOK b c d v n) (hn:leafM v n = none):(v = 3 \/ v = 4) /\ 0 <= n /\ n < c.length:= by
 unfold leafM at hn
 unfold vOK at h
 split at hn
 ·cases hn
 ·split at hn
  ·cases hn
  ·split at hn
   ·cases hn
   ·split at hn
    ·cases hn
    ·omega
theorem leaf_size {v n:Int} (h:vOK b c d v n) {t:ByteArray} (hn:leafM v n = some t):t.size <= 22:= by
 unfold leafM at hn
 unfold vOK at h
 split at hn
 ·obtain rfl:= Option.some.inj hn
  exact decM_size n (by omega) (by omega)
 ·split at hn
  ·obtain rfl:= Option.some.inj hn
   decide
  ·split at hn
   ·obtain rfl:= Option.some.inj hn
    decide
   ·split at hn
    ·obtain rfl:= Option.some.inj hn
     decide
    ·cases hn
theorem head_size (v:Int):(headM v).size = 6:= by unfold headM; split <;> rfl
theorem show_size (ho:HOK a b c d) (m:Nat):∀ v n,vOK b c d v n -> (showM c m v n).size + 8 <= 30 * 2 ^ m:= by
 induction m with
 | zero =>
  intro v n h
  simp only [showM]
  cases e:leafM v n with
  | none => simp only [Option.getD_none]; decide
  | some t => have:= leaf_size b c d h e; simp only [Option.getD_some]; omega
 | succ m ih =>
  intro v n h
  simp only [showM]
  have hp:1 <= 2 ^ m:= Nat.one_le_two_pow
  cases e:leafM v n with
  | none =>
   obtain ⟨_,hn0,hn1⟩:= leaf_none b c d h e
   obtain ⟨j,rfl⟩:∃ j:Nat,n = j:= ⟨n.toNat,by omega⟩
   obtain ⟨o1,o2⟩:= ho.two j (by omega)
   have h1:= ih _ _ o1
   have h2:= ih _ _ o2
   simp only [Option.getD_none,ByteArray.size_append,head_size]
   rw [show (⟨#[32]⟩:ByteArray).size = 1 from rfl,show (⟨#[41]⟩:ByteArray).size = 1 from rfl,Nat.pow_succ]
   omega
  | some t => have:= leaf_size b c d h e; simp only [Option.getD_some,Nat.pow_succ]; omega
theorem leaf_impl {v n:Int} (h:vOK b c d v n) {t:ByteArray} (hn:leafM v n = some t) (x:Int):Ev (fun k => impl_Heap_show.f k a b c d v n x) t:= by
 unfold leafM at hn
 apply ev_step
 by_cases h0:v = 0
 ·rw [if_pos h0] at hn
  obtain rfl:= Option.some.inj hn
  unfold vOK at h
  simp only [impl_Heap_show.f,if_pos h0,impl_dec n (by omega) (by omega),Option.bind_some]
  exact ev_const _
 ·rw [if_neg h0] at hn
  simp only [impl_Heap_show.f,if_neg h0]
  by_cases h1:v = 1
  ·rw [if_pos h1] at hn
   obtain rfl:= Option.some.inj hn
   simp only [if_pos h1]; exact ev_const _
  ·rw [if_neg h1] at hn
   simp only [if_neg h1]
   by_cases h2:v = 2
   ·rw [if_pos h2] at hn
    obtain rfl:= Option.some.inj hn
    simp only [if_pos h2]; exact ev_const _
   ·rw [if_neg h2] at hn
    simp only [if_neg h2]
    by_cases h5:v = 5
    ·rw [if_pos h5] at hn
     obtain rfl:= Option.some.inj hn
     simp only [if_pos h5]; exact ev_const _
    ·rw [if_neg h5] at hn
     cases hn
theorem leaf_cases {v n:Int} (hn:leafM v n = none):v ≠ 0 /\ v ≠ 1 /\ v ≠ 2 /\ v ≠ 5:= by
 unfold leafM at hn
 split at hn
 ·cases hn
 ·split at hn
  ·cases hn
  ·split at hn
   ·cases hn
   ·split at hn
    ·cases hn
    ·exact ⟨by assumption,by assumption,by assumption,by assumption⟩
theorem show_impl (ho:HOK a b c d) (m:Nat):m <= 8 -> ∀ v n,vOK b c d v n -> Ev (fun k => impl_Heap_show.f k a b c d v n (m:Int)) (showM c m v n):= by
 induction m with
 | zero =>
  intro hm v n h
  simp only [showM]
  cases e:leafM v n with
  | some t => exact leaf_impl a b c d h e _
  | none =>
   obtain ⟨h0,h1,h2,h5⟩:= leaf_cases e
   apply ev_step
   simp only [impl_Heap_show.f,if_neg h0,if_neg h1,if_neg h2,if_neg h5]
   have z:∀ k x7,impl_Heap_show.j0 (k + 1) ((0:Nat):Int) x7 a b c d v n = some (⟨#[95]⟩:ByteArray):= fun k x7 => by rw [impl_Heap_show.j0,if_pos (show ((0:Nat):Int) = 0 from rfl)]
   apply ev_step
   simp only [z,ite_self]
   exact ev_const _
 | succ m ih =>
  intro hm v n h
  simp only [showM]
  cases e:leafM v n with
  | some t => exact leaf_impl a b c d h e _
  | none =>
   obtain ⟨h0,h1,h2,h5⟩:= leaf_cases e
   obtain ⟨hv,hn0,hn1⟩:= leaf_none b c d h e
   obtain ⟨j,rfl⟩:∃ j:Nat,n = j:= ⟨n.toNat,by omega⟩
   obtain ⟨o1,o2⟩:= ho.two j (by omega)
   have s1:= show_size a b c d ho m _ _ o1
   have s2:= show_size a b c d ho m _ _ o2
   have hp:2 ^ m <= 2 ^ 8:= Nat.pow_le_pow_right (by omega) (by omega)
   have hm0:¬ ((m + 1:Nat):Int) = 0:= by omega
   have w1:wrap64 (((m + 1:Nat):Int) - 1) = (m:Int):= by unfold wrap64; omega
   apply ev_step
   simp only [impl_Heap_show.f,if_neg h0,if_neg h1,if_neg h2,if_neg h5]
   have go:∀ x7:ByteArray,(((⟨#[40]⟩:ByteArray) ++ x7) ++ (⟨#[32]⟩:ByteArray)) = headM v -> x7.size = 4 -> Ev (fun k => impl_Heap_show.j0 k ((m + 1:Nat):Int) x7 a b c d v (j:Int)) (((((headM v) ++ showM c m (rd_T47 c j).f0.f0 (rd_T47 c j).f0.f1) ++ (⟨#[32]⟩:ByteArray)) ++ showM c m (rd_T47 c j).f1.f0 (rd_T47 c j).f1.f1) ++ (⟨#[41]⟩:ByteArray)):= by
    intro x7 hx hs
    have z1:((⟨#[40]⟩:ByteArray) ++ x7).size = 5:= by rw [ByteArray.size_append,hs]; rfl
    have z2:(⟨#[32]⟩:ByteArray).size = 1:= rfl
    apply ev_step
    simp only [impl_Heap_show.j0,if_neg hm0,if_pos hn0,if_pos hn1,w1]
    simp only [if_pos (show 1 + x7.size <= 9223372036854775807 by omega),if_pos (show ((⟨#[40]⟩:ByteArray) ++ x7).size + 1 <= 9223372036854775807 by omega),hx]
    refine ev_bind (ih (by omega) _ _ o1) ?_
    simp only [if_pos (show (headM v).size + (showM c m (rd_T47 c j).f0.f0 (rd_T47 c j).f0.f1).size <= 9223372036854775807 by rw [head_size]; omega),if_pos (show ((headM v) ++ (showM c m (rd_T47 c j).f0.f0 (rd_T47 c j).f0.f1)).size + 1 <= 9223372036854775807 by simp only [ByteArray.size_append]; rw [head_size]; omega)]
    refine ev_bind (ih (by omega) _ _ o2) ?_
    rw [if_pos (by simp only [ByteArray.size_append]; rw [head_size]; omega),if_pos (by simp only [ByteArray.size_append]; rw [head_size]; omega)]
    exact ev_const _
   simp only [Option.getD_none]
   rcases hv with hv | hv
   ·simp only [if_neg (show ¬ v = 4 by omega)]
    exact go _ (by unfold headM; rw [if_pos hv]; rfl) rfl
   ·simp only [if_pos hv]
    exact go _ (by unfold headM; rw [if_neg (by omega)]; rfl) rfl
end
theorem ev_uniq {α:Type} {g:Nat -> Option α} {p q:α} (h:Ev g p) (k:Ev g q):p = q:= by
 obtain ⟨n,hn⟩:= h
 obtain ⟨m,hm⟩:= k
 have a:= hn (max n m) (Nat.le_max_left _ _)
 have b:= hm (max n m) (Nat.le_max_right _ _)
 rw [a] at b
 exact Option.some.inj b
theorem once_ok (c:List Int) (hc:c.length <= 1048576) (i h:Int) (hi:Cur c i) (n:Int):∃ x j g,spec_l1Once.f c i h n = some (x,j,g) /\ Cur c j:= by
 unfold spec_l1Once.f
 obtain ⟨x,j,g,e,_,_,_,q⟩:= below_ok c hc i h hi n
 rw [e]
 exact ⟨_,_,_,rfl,q⟩
theorem pickint_ok (c:List Int) (hc:c.length <= 1048576) (i h:Int) (hi:Cur c i) (l:List Int) (hl:0 < l.length):∃ x j g,spec_l1PickInt.f c i h l = some (x,j,g) /\ Cur c j:= by
 unfold spec_l1PickInt.f
 obtain ⟨x,j,g,e,h0,h1,_,h2⟩:= below_ok c hc i h hi (l.length:Int)
 rw [e]
 simp only [Option.bind_some,if_pos h0,if_pos (h1 (by omega))]
 exact ⟨_,_,_,rfl,h2⟩
section
variable (cd:List Int) (hcd:cd.length <= 1048576)
include hcd
theorem val_ok (i h:Int) (hi:Cur cd i) (a:List S41) (b:List S86) (c:List S47) (d:List S35):∃ v n j g,Ev (fun k => spec_l10Val.f k cd i h a b c d) (v,n,j,g) /\ Cur cd j:= by
 unfold spec_l10Val.f
 obtain ⟨x,j,g,e,_,_,_,q⟩:= below_ok cd hcd i h hi 7
 simp only [e,Option.bind_some]
 have nine:∀ (i h:Int),Cur cd i -> ∃ v n j g,Ev (fun _ => (spec_l1Below.f cd i h 9).bind fun bt => some ((0:Int),bt.1,bt.2.1,bt.2.2)) (v,n,j,g) /\ Cur cd j:= fun i h hi => by
  obtain ⟨x,j,g,e,_,_,_,q⟩:= below_ok cd hcd i h hi 9
  simp only [e,Option.bind_some]
  exact ⟨_,_,_,_,ev_const _,q⟩
 have j0:∀ (x:Int) (t:Bool) (i h:Int),Cur cd i -> ∃ v n j g,Ev (fun k => spec_l10Val.j0 k x t cd i h a b c d) (v,n,j,g) /\ Cur cd j:= fun x t i h hi => by
  cases t
  ·by_cases z:x = 4
   ·by_cases y:(d.length:Int) > 0
    ·obtain ⟨x2,j,g,e,_,_,_,q⟩:= below_ok cd hcd i h hi (d.length:Int)
     refine ⟨5,x2,j,g,ev_step ?_,q⟩
     simp only [spec_l10Val.j0,Bool.false_eq_true,if_false,if_pos z,if_pos y,e,Option.bind_some]
     exact ev_const _
    ·obtain ⟨v,n,j,g,e,q⟩:= nine i h hi
     refine ⟨v,n,j,g,ev_step ?_,q⟩
     simp only [spec_l10Val.j0,Bool.false_eq_true,if_false,if_pos z,if_neg y]
     exact e
   ·obtain ⟨v,n,j,g,e,q⟩:= nine i h hi
    refine ⟨v,n,j,g,ev_step ?_,q⟩
    simp only [spec_l10Val.j0,Bool.false_eq_true,if_false,if_neg z]
    exact e
  ·by_cases y:(c.length:Int) > 0
   ·obtain ⟨x2,j,g,e,_,_,_,q⟩:= below_ok cd hcd i h hi 2
    obtain ⟨x3,j3,g3,e3,_,_,_,q3⟩:= below_ok cd hcd j g q (c.length:Int)
    refine ⟨wrap64 (3 + x2),x3,j3,g3,ev_step ?_,q3⟩
    simp only [spec_l10Val.j0,if_true,if_pos y,e,e3,Option.bind_some]
    exact ev_const _
   ·obtain ⟨v,n,j,g,e,q⟩:= nine i h hi
    refine ⟨v,n,j,g,ev_step ?_,q⟩
    simp only [spec_l10Val.j0,if_true,if_neg y]
    exact e
 by_cases h0:x = 0
 ·by_cases y:(b.length:Int) > 0
  ·obtain ⟨x2,j2,g2,e2,_,_,_,q2⟩:= below_ok cd hcd j g q (b.length:Int)
   simp only [if_pos h0,if_pos y,e2,Option.bind_some]
   exact ⟨_,_,_,_,ev_const _,q2⟩
  ·simp only [if_pos h0,if_neg y]
   exact nine j g q
 ·by_cases h1:x = 1
  ·simp only [if_neg h0,if_pos h1]
   exact ⟨_,_,_,_,ev_const _,q⟩
  ·by_cases h2:x = 2
   ·simp only [if_neg h0,if_neg h1,if_pos h2]
    exact j0 _ _ j g q
   ·simp only [if_neg h0,if_neg h1,if_neg h2]
    exact j0 _ _ j g q
theorem heap_loop (n:Nat):∀ (i h:Int) (a:List S41) (b:List S86) (c:List S47) (d:List S35),Cur cd i -> a.length + n <= 100 -> b.length + n <= 100 -> c.length + n <= 100 -> d.length + n <= 100 ->
  ∃ a' b' c' d' j g,Ev (fun k => spec_l10Heap.l0 k (n:Int) cd i h a b c d) (a',b',c',d',j,g) /\ a'.length <= 200 /\ b'.length <= 200 /\ c'.length <= 200 /\ d'.length <= 200 /\ Cur cd j:= by
 induction n with
 | zero =>
  intro i h a b c d hi ha hb hc hd
  obtain ⟨x,j,g,e,_,_,_,q⟩:= below_ok cd hcd i h hi 16
  have cn:¬ ((0:Nat):Int) > 0:= by decide
  by_cases h0:x = 0
  ·obtain ⟨x2,j2,g2,e2,_,_,_,q2⟩:= below_ok cd hcd j g q 9
   refine ⟨a,b,c,d ++ [⟨3,x2⟩],j2,g2,ev_step ?_,by omega,by omega,by omega,by simp; omega,q2⟩
   simp only [spec_l10Heap.l0,if_neg cn,e,Option.bind_some,if_pos h0,e2,if_pos (show d.length < 8796093022208 by omega)]
   exact ev_const _
  ·by_cases h1:x = 1
   ·refine ⟨a,b ++ [⟨0,(a.length:Int)⟩],c,d,j,g,ev_step ?_,by omega,by simp; omega,by omega,by omega,q⟩
    simp only [spec_l10Heap.l0,if_neg cn,e,Option.bind_some,if_neg h0,if_pos h1,if_pos (show b.length < 8796093022208 by omega)]
    exact ev_const _
   ·by_cases h2:x = 2
    ·refine ⟨a,b,c ++ [⟨⟨4,(c.length:Int)⟩,⟨0,0⟩⟩],d,j,g,ev_step ?_,by omega,by omega,by simp; omega,by omega,q⟩
     simp only [spec_l10Heap.l0,if_neg cn,e,Option.bind_some,if_neg h0,if_neg h1,if_pos h2,if_pos (show c.length < 4398046511104 by omega)]
     exact ev_const _
    ·refine ⟨a,b,c,d,j,g,ev_step ?_,by omega,by omega,by omega,by omega,q⟩
     simp only [spec_l10Heap.l0,if_neg cn,e,Option.bind_some,if_neg h0,if_neg h1,if_neg h2]
     exact ev_const _
 | succ n ih =>
  intro i h a b c d hi ha hb hc hd
  obtain ⟨x,j,g,e,_,_,_,q⟩:= below_ok cd hcd i h hi 4
  have cn:((n + 1:Nat):Int) > 0:= by omega
  have w:wrap64 (((n + 1:Nat):Int) - 1) = (n:Int):= by unfold wrap64; omega
  by_cases h0:x = 0
  ·obtain ⟨x2,j2,g2,e2,_,_,_,q2⟩:= below_ok cd hcd j g q 4
   obtain ⟨x3,j3,g3,e3,_,_,_,q3⟩:= below_ok cd hcd j2 g2 q2 2
   obtain ⟨v,m,j4,g4,e4,q4⟩:= val_ok cd hcd j3 g3 q3 a b c d
   obtain ⟨x5,j5,g5,e5,_,_,_,q5⟩:= below_ok cd hcd j4 g4 q4 (wrap64 ((a.length:Int) + 1))
   obtain ⟨a',b',c',d',j6,g6,e6,r⟩:= ih j5 g5 (a ++ [⟨x2,x3,⟨v,m⟩,wrap64 ((wrap64 ((a.length:Int) - 1)) - x5)⟩]) b c d q5 (by simp; omega) (by omega) (by omega) (by omega)
   refine ⟨a',b',c',d',j6,g6,ev_step ?_,r⟩
   simp only [spec_l10Heap.l0,if_pos cn,e,Option.bind_some,if_pos h0,e2,e3]
   refine ev_bind e4 ?_
   simp only [e5,Option.bind_some,if_pos (show a.length < 3518437208883 by omega),w]
   exact e6
  ·by_cases h1:x = 1
   ·obtain ⟨x2,j2,g2,e2,_,_,_,q2⟩:= below_ok cd hcd j g q 5
    obtain ⟨a',b',c',d',j6,g6,e6,r⟩:= ih j2 g2 a (b ++ [⟨x2,wrap64 ((a.length:Int) - 1)⟩]) c d q2 (by omega) (by simp; omega) (by omega) (by omega)
    refine ⟨a',b',c',d',j6,g6,ev_step ?_,r⟩
    simp only [spec_l10Heap.l0,if_pos cn,e,Option.bind_some,if_neg h0,if_pos h1,e2,if_pos (show b.length < 8796093022208 by omega),w]
    exact e6
   ·by_cases h2:x = 2
    ·obtain ⟨v,m,j4,g4,e4,q4⟩:= val_ok cd hcd j g q a b c d
     obtain ⟨v2,m2,j5,g5,e5,q5⟩:= val_ok cd hcd j4 g4 q4 a b c d
     obtain ⟨a',b',c',d',j6,g6,e6,r⟩:= ih j5 g5 a b (c ++ [⟨⟨v,m⟩,⟨v2,m2⟩⟩]) d q5 (by omega) (by omega) (by simp; omega) (by omega)
     refine ⟨a',b',c',d',j6,g6,ev_step ?_,r⟩
     simp only [spec_l10Heap.l0,if_pos cn,e,Option.bind_some,if_neg h0,if_neg h1,if_pos h2]
     refine ev_bind e4 (ev_bind e5 ?_)
     simp only [if_pos (show c.length < 4398046511104 by omega),w]
     exact e6
    ·obtain ⟨v,m,j4,g4,e4,q4⟩:= val_ok cd hcd j g q a b c d
     obtain ⟨a',b',c',d',j6,g6,e6,r⟩:= ih j4 g4 a b c (d ++ [⟨v,m⟩]) q4 (by omega) (by omega) (by omega) (by simp; omega)
     refine ⟨a',b',c',d',j6,g6,ev_step ?_,r⟩
     simp only [spec_l10Heap.l0,if_pos cn,e,Option.bind_some,if_neg h0,if_neg h1,if_neg h2]
     refine ev_bind e4 ?_
     simp only [if_pos (show d.length < 8796093022208 by omega),w]
     exact e6
theorem heap_draw (i h:Int) (hi:Cur cd i):∃ a b c d j g,Ev (fun k => spec_l10Heap.f k cd i h) (a,b,c,d,j,g) /\ a.length <= 200 /\ b.length <= 200 /\ c.length <= 200 /\ d.length <= 200 /\ Cur cd j:= by
 obtain ⟨x,j,g,e,h0,h1,_,q⟩:= below_ok cd hcd i h hi 12
 obtain ⟨n,rfl⟩:∃ n:Nat,x = n:= ⟨x.toNat,by omega⟩
 have:= h1 (by omega)
 unfold spec_l10Heap.f
 simp only [e,Option.bind_some]
 exact heap_loop cd hcd n j g [] [] [] [] q (by simp; omega) (by simp; omega) (by simp; omega) (by simp; omega)
theorem draw_tail (i h:Int) (hi:Cur cd i) (a:List S41) (b:List S86) (c:List S47) (d:List S35) (z y:Int):∃ e n r,Ev (fun _:Nat => (spec_l1Once.f cd i h 6).bind fun bt236 => (if bt236.1 = true then ((spec_l1Below.f cd bt236.2.1 bt236.2.2 z).bind fun bt239 => ((spec_l1Below.f cd bt239.2.1 bt239.2.2 4).bind fun bt242 => ((spec_l1Below.f cd bt242.2.1 bt242.2.2 2).bind fun bt245 => (some (a,b,c,d,wrap64 (bt239.1 - 2),bt242.1,bt245.1))))) else ((spec_l1Below.f cd bt236.2.1 bt236.2.2 4).bind fun bt248 => ((spec_l1Below.f cd bt248.2.1 bt248.2.2 2).bind fun bt251 => (some (a,b,c,d,y,bt248.1,bt251.1)))))) (a,b,c,d,e,n,r):= by
 obtain ⟨t,j2,g2,e2,q2⟩:= once_ok cd hcd i h hi 6
 cases t
 ·obtain ⟨x3,j3,g3,e3,_,_,_,q3⟩:= below_ok cd hcd j2 g2 q2 4
  obtain ⟨x4,j4,g4,e4,_,_,_,q4⟩:= below_ok cd hcd j3 g3 q3 2
  refine ⟨y,x3,x4,?_⟩
  simp only [e2,Option.bind_some,Bool.false_eq_true,if_false,e3,e4]
  exact ev_const _
 ·obtain ⟨x3,j3,g3,e3,_,_,_,q3⟩:= below_ok cd hcd j2 g2 q2 z
  obtain ⟨x4,j4,g4,e4,_,_,_,q4⟩:= below_ok cd hcd j3 g3 q3 4
  obtain ⟨x5,j5,g5,e5,_,_,_,q5⟩:= below_ok cd hcd j4 g4 q4 2
  refine ⟨wrap64 (x3 - 2),x4,x5,?_⟩
  simp only [e2,Option.bind_some,if_true,e3,e4,e5]
  exact ev_const _
theorem draw_look:∃ a b c d e n r,Ev (fun k => spec_DrawLookUp.f k cd) (a,b,c,d,e,n,r) /\ a.length <= 200 /\ b.length <= 200 /\ c.length <= 200 /\ d.length <= 200:= by
 obtain ⟨h,en⟩:= new_ev cd hcd
 obtain ⟨a,b,c,d,j,g,eh,h1,h2,h3,h4,q⟩:= heap_draw cd hcd 0 h (cur0 cd)
 obtain ⟨e,n,r,et⟩:= draw_tail cd hcd j g q a b c d (wrap64 ((a.length:Int) + 3)) (wrap64 ((a.length:Int) - 1))
 refine ⟨a,b,c,d,e,n,r,?_,h1,h2,h3,h4⟩
 unfold spec_DrawLookUp.f
 exact ev_bind en (ev_bind eh et)
theorem draw_show:∃ a b c d v n x,Ev (fun k => spec_DrawShowVal.f k cd) (a,b,c,d,v,n,x) /\ a.length <= 200 /\ b.length <= 200 /\ c.length <= 200 /\ d.length <= 200:= by
 obtain ⟨h,en⟩:= new_ev cd hcd
 obtain ⟨a,b,c,d,j,g,eh,h1,h2,h3,h4,q⟩:= heap_draw cd hcd 0 h (cur0 cd)
 obtain ⟨v,n,j2,g2,e2,q2⟩:= val_ok cd hcd j g q a b c d
 obtain ⟨x,j3,g3,e3,q3⟩:= pickint_ok cd hcd j2 g2 q2 ([3,3,0,1,8,9,(-1)]:List Int) (by decide)
 refine ⟨a,b,c,d,v,n,x,?_,h1,h2,h3,h4⟩
 unfold spec_DrawShowVal.f
 refine ev_bind en (ev_bind eh (ev_bind e2 ?_))
 simp only [e3,Option.bind_some]
 exact ev_const _
end
section
variable (a:List S41) (b:List S86) (c:List S47) (d:List S35)
theorem look_one (ho:HOK a b c d) (n r:Int) (m:Nat):∀ (e:Int),e < a.length -> e < m -> ∃ q,Ev (fun k => impl_Heap_lookUp.l0 k e a b c d n r) q /\ (q.2.2 = true -> vOK b c d q.1 q.2.1):= by
 induction m with
 | zero =>
  intro e h1 h2
  refine ⟨(0,0,false),ev_step ?_,fun h => by cases h⟩
  simp only [impl_Heap_lookUp.l0,if_neg (show ¬ e >= 0 by omega)]
  exact ev_const _
 | succ m ih =>
  intro e h1 h2
  by_cases cn:e >= 0
  ·obtain ⟨j,rfl⟩:∃ j:Nat,e = j:= ⟨e.toNat,by omega⟩
   obtain ⟨x1,x2,x3⟩:= ho.env j (by omega)
   obtain ⟨q,q1,q2⟩:= ih (rd_T41 a j).f3 (by omega) (by omega)
   by_cases g0:(rd_T41 a j).f0 = n
   ·by_cases g1:(rd_T41 a j).f1 = r
    ·refine ⟨((rd_T41 a j).f2.f0,(rd_T41 a j).f2.f1,true),ev_step ?_,fun _ => x3⟩
     simp only [impl_Heap_lookUp.l0,if_pos cn,if_pos (show 0 <= (j:Int) from cn),if_pos h1,if_pos g0,if_pos g1]
     exact ev_const _
    ·refine ⟨q,ev_step ?_,q2⟩
     simp only [impl_Heap_lookUp.l0,if_pos cn,if_pos (show 0 <= (j:Int) from cn),if_pos h1,if_pos g0,if_neg g1]
     exact q1
   ·refine ⟨q,ev_step ?_,q2⟩
    simp only [impl_Heap_lookUp.l0,if_pos cn,if_pos (show 0 <= (j:Int) from cn),if_pos h1,if_neg g0]
    exact q1
  ·refine ⟨(0,0,false),ev_step ?_,fun h => by cases h⟩
   simp only [impl_Heap_lookUp.l0,if_neg cn]
   exact ev_const _
theorem hok_cases (ha:a.length <= 1048576) (hb:b.length <= 1048576) (hc:c.length <= 1048576) (hd:d.length <= 1048576):∃ t,Ev (fun k => spec_HeapOk.f k a b c d) t /\ Ev (fun k => impl_HeapOk.f k a b c d) t /\ (t = true -> HOK a b c d):= by
 obtain ⟨q,h1,h2⟩:= heapok_both a b c d ha hb hc hd 5000001 (by omega)
 exact ⟨q,ev_at 5000001 fun k hk => at_rounds (spec_HeapOk.mono a b c d) hk h1,ev_at 5000001 fun k hk => at_rounds (impl_HeapOk.mono a b c d) hk h2,fun h => by subst h; exact heap_facts a b c d ha hb hc hd _ h1⟩
theorem vok_cases (hb:b.length <= 1048576) (hc:c.length <= 1048576) (hd:d.length <= 1048576) (v n:Int):∃ t,Ev (fun k => spec_ValOk.f k a b c d v n) t /\ Ev (fun k => impl_ValOk.f k a b c d v n) t /\ (t = true ↔ vOK b c d v n):= by
 obtain ⟨p,h3,h4⟩:= valok_both a b c d v n 1 (by omega)
 exact ⟨p,ev_at 1 fun k hk => at_rounds (spec_ValOk.mono a b c d v n) hk h3,ev_at 1 fun k hk => at_rounds (impl_ValOk.mono a b c d v n) hk h4,valok_iff a b c d hb hc hd v n _ _ h3⟩
theorem in_i (x y z:Int):impl_in.f x y z = some (decide (x >= y /\ x <= z)):= by rw [in_same,in_some]
theorem lookup_in (ha:a.length <= 1048576) (hh:Ev (fun k => impl_HeapOk.f k a b c d) true) (e n r:Int) (h:-1 <= e /\ e < a.length) {q:Int × Int × Bool} (hq:Ev (fun k => impl_Heap_lookUp.l0 k e a b c d n r) q):Ev (fun k => impl_LookUp.f k a b c d e n r) q:= by
 unfold impl_LookUp.f impl_Heap_lookUp.f
 refine ev_bind hh ?_
 have w1:wrap64 ((a.length:Int) - 1) = (a.length:Int) - 1:= by unfold wrap64; omega
 simp only [if_true,w1,in_i,decide_eq_true (show e >= -1 /\ e <= (a.length:Int) - 1 by omega),Option.bind_some]
 exact ev_bind hq (ev_const _)
theorem show_in (hh:Ev (fun k => impl_HeapOk.f k a b c d) true) (ho:HOK a b c d) {v n:Int} (hvv:Ev (fun k => impl_ValOk.f k a b c d v n) true) (hv:vOK b c d v n) (m:Nat) (hm:m <= 8):Ev (fun k => impl_ShowVal.f k a b c d v n (m:Int)) (showM c m v n):= by
 unfold impl_ShowVal.f
 refine ev_bind hh ?_
 simp only [if_true]
 refine ev_bind hvv ?_
 simp only [if_true,in_i,decide_eq_true (show (m:Int) >= 0 /\ (m:Int) <= 8 by omega),Option.bind_some]
 exact ev_bind (show_impl a b c d ho m hm v n hv) (ev_const _)
end
theorem nil_iff (s:ByteArray):s.toList = [] ↔ s.size = 0:= by
 rw [ByteArray.toList_eq]
 have e:s.size = s.data.toList.length:= rfl
 rw [e,List.length_eq_zero_iff]
theorem tl_of (l:List UInt8):(⟨l.toArray⟩:ByteArray).toList = l:= by rw [ByteArray.toList_eq]
theorem law3 (cd:List Int) (hcd:cd.length <= 1048576):Ev (fun k => laws_FnValues.j3 k cd) true:= by
 obtain ⟨a,b,c,d,v,n,x,ed,ha,hb,hc,hd⟩:= draw_show cd hcd
 obtain ⟨t,t1,t2,t3⟩:= hok_cases a b c d (by omega) (by omega) (by omega) (by omega)
 obtain ⟨p,p1,p2,p3⟩:= vok_cases a b c d (by omega) (by omega) (by omega) v n
 have e0:(⟨#[]⟩:ByteArray).toList = []:= (nil_iff _).2 rfl
 have bad:Ev (fun k => laws_FnValues.j4 k x (⟨#[]⟩:ByteArray) true a b c d v n) true:= by
  apply ev_step
  simp only [laws_FnValues.j4,if_true,e0]
  exact ev_const _
 apply ev_step
 simp only [laws_FnValues.j3]
 refine ev_bind ed ?_
 simp only
 cases t
 ·have es:Ev (fun k => impl_ShowVal.f k a b c d v n x) (⟨#[]⟩:ByteArray):= by
   unfold impl_ShowVal.f
   refine ev_bind t2 ?_
   simp only [Bool.false_eq_true,if_false]
   exact ev_const _
  refine ev_bind es (ev_bind t1 ?_)
  simp only [Bool.false_eq_true,if_false]
  exact bad
 ·cases p
  ·have es:Ev (fun k => impl_ShowVal.f k a b c d v n x) (⟨#[]⟩:ByteArray):= by
    unfold impl_ShowVal.f
    refine ev_bind t2 ?_
    simp only [if_true]
    refine ev_bind p2 ?_
    simp only [Bool.false_eq_true,if_false]
    exact ev_const _
   refine ev_bind es (ev_bind t1 ?_)
   simp only [if_true]
   refine ev_bind p1 ?_
   simp only [Bool.false_eq_true,if_false]
   exact bad
  ·have ho:= t3 rfl
   have hv:= p3.1 rfl
   by_cases hx:0 <= x /\ x <= 8
   ·obtain ⟨m,rfl⟩:∃ m:Nat,x = m:= ⟨x.toNat,by omega⟩
    have es:= show_in a b c d t2 ho p2 hv m (by omega)
    refine ev_bind es (ev_bind t1 ?_)
    simp only [if_true]
    refine ev_bind p1 ?_
    simp only [if_true,if_neg (show ¬ (m:Int) < 0 by omega),decide_eq_false (show ¬ (m:Int) > 8 by omega)]
    have hs:= show_size a b c d ho
    have rest:∀ (t:Bool),(t = true ↔ (v = 3 \/ v = 4)) -> v ≠ 0 -> Ev (fun k => laws_FnValues.j5 k (m:Int) (showM c m v n) t a b c d v n) true:= fun t ht hv0 => by
     apply ev_step
     by_cases h34:v = 3 \/ v = 4
     ·have:= ht.2 h34
      subst this
      have hl:leafM v n = none:= by unfold leafM; rw [if_neg (by omega),if_neg (by omega),if_neg (by omega),if_neg (by omega)]
      cases m with
      | zero =>
       simp only [laws_FnValues.j5,if_true,if_pos (show ((0:Nat):Int) = 0 from rfl),showM,hl,Option.getD_none]
       refine ev_eq (ev_const _) ?_
       rw [beq_iff_eq]
       exact tl_of [95]
      | succ m =>
       obtain ⟨_,n0,n1⟩:= leaf_none b c d hv hl
       obtain ⟨o1,o2⟩:= ho.two n.toNat (by omega)
       rw [show ((n.toNat:Nat):Int) = n by omega] at o1 o2
       obtain ⟨pa,_,pa2,pa3⟩:= vok_cases a b c d (by omega) (by omega) (by omega) (rd_T47 c n).f0.f0 (rd_T47 c n).f0.f1
       obtain ⟨pb,_,pb2,pb3⟩:= vok_cases a b c d (by omega) (by omega) (by omega) (rd_T47 c n).f1.f0 (rd_T47 c n).f1.f1
       have:= pa3.2 o1
       subst this
       have:= pb3.2 o2
       subst this
       have ea:= show_in a b c d t2 ho pa2 o1 m (by omega)
       have eb:= show_in a b c d t2 ho pb2 o2 m (by omega)
       have sa:= hs m _ _ o1
       have sb:= hs m _ _ o2
       have hp:2 ^ m <= 2 ^ 8:= Nat.pow_le_pow_right (by omega) (by omega)
       have w:wrap64 (((m + 1:Nat):Int) - 1) = (m:Int):= by unfold wrap64; omega
       have eh:laws_map2.f v = some (headM v):= by
        unfold laws_map2.f headM
        split <;> rfl
       have sh:= head_size v
       have one:∀ z:UInt8,(⟨#[z]⟩:ByteArray).size = 1:= fun z => rfl
       simp only [laws_FnValues.j5,if_true,if_neg (show ¬ ((m + 1:Nat):Int) = 0 by omega),eh,Option.bind_some,if_pos n0,if_pos n1,w]
       refine ev_bind ea ?_
       simp only [if_pos (show (headM v).size + (showM c m (rd_T47 c n).f0.f0 (rd_T47 c n).f0.f1).size <= 9223372036854775807 by omega),if_pos (show ((headM v) ++ (showM c m (rd_T47 c n).f0.f0 (rd_T47 c n).f0.f1)).size + 1 <= 9223372036854775807 by rw [ByteArray.size_append]; omega)]
       refine ev_bind eb ?_
       simp only [if_pos (show (((headM v) ++ (showM c m (rd_T47 c n).f0.f0 (rd_T47 c n).f0.f1)) ++ (⟨#[32]⟩:ByteArray)).size + (showM c m (rd_T47 c n).f1.f0 (rd_T47 c n).f1.f1).size <= 9223372036854775807 by rw [ByteArray.size_append,ByteArray.size_append,one]; omega),if_pos (show ((((headM v) ++ (showM c m (rd_T47 c n).f0.f0 (rd_T47 c n).f0.f1)) ++ (⟨#[32]⟩:ByteArray)) ++ (showM c m (rd_T47 c n).f1.f0 (rd_T47 c n).f1.f1)).size + 1 <= 9223372036854775807 by rw [ByteArray.size_append,ByteArray.size_append,ByteArray.size_append,one]; omega)]
       refine ev_eq (ev_const _) ?_
       rw [beq_iff_eq,showM,hl,Option.getD_none]
     ·have:t = false:= by
       cases t
       ·rfl
       ·exact absurd (ht.1 rfl) h34
      subst this
      simp only [laws_FnValues.j5,Bool.false_eq_true,if_false]
      have three:v = 1 \/ v = 2 \/ v = 5:= by unfold vOK at hv; omega
      have em:showM c m v n = (leafM v n).getD (⟨#[]⟩:ByteArray):= by
       have:∃ t,leafM v n = some t:= by
        unfold leafM
        rcases three with rfl | rfl | rfl
        ·exact ⟨_,rfl⟩
        ·exact ⟨_,rfl⟩
        ·exact ⟨_,rfl⟩
       obtain ⟨t,ht2⟩:= this
       cases m <;> simp only [showM,ht2,Option.getD_some]
      rw [em]
      rcases three with rfl | rfl | rfl
      ·have:((leafM 1 n).getD (⟨#[]⟩:ByteArray)).toList = [102,117,110]:= tl_of [102,117,110]
       simp only [this,if_true]; exact ev_const _
      ·have:((leafM 2 n).getD (⟨#[]⟩:ByteArray)).toList = [110,105,108]:= tl_of [110,105,108]
       simp only [this,if_true,if_neg (show ¬ ([110,105,108]:List UInt8) = [102,117,110] by decide)]; exact ev_const _
      ·have:((leafM 5 n).getD (⟨#[]⟩:ByteArray)).toList = [114,101,102]:= tl_of [114,101,102]
       simp only [this,if_neg (show ¬ ([114,101,102]:List UInt8) = [102,117,110] by decide),if_neg (show ¬ ([114,101,102]:List UInt8) = [110,105,108] by decide)]
       exact ev_eq (ev_const _) (by decide)
    apply ev_step
    simp only [laws_FnValues.j4,Bool.false_eq_true,if_false]
    by_cases h0:v = 0
    ·have hn:0 <= n /\ n <= 65535:= by unfold vOK at hv; omega
     simp only [if_pos h0,impl_dec n (by omega) (by omega),Option.bind_some]
     refine ev_eq (ev_const _) ?_
     have:showM c m v n = decM n:= by
      have:leafM v n = some (decM n):= by unfold leafM; rw [if_pos h0]
      cases m <;> simp only [showM,this,Option.getD_some]
     rw [this,beq_self_eq_true]
    ·simp only [if_neg h0]
     by_cases h3:v = 3
     ·simp only [if_pos h3]
      exact rest _ (by rw [beq_iff_eq]; omega) h0
     ·simp only [if_neg h3]
      exact rest _ (by rw [beq_iff_eq]; omega) h0
   ·have es:Ev (fun k => impl_ShowVal.f k a b c d v n x) (⟨#[]⟩:ByteArray):= by
     unfold impl_ShowVal.f
     refine ev_bind t2 ?_
     simp only [if_true]
     refine ev_bind p2 ?_
     simp only [if_true,in_i,decide_eq_false (show ¬ (x >= 0 /\ x <= 8) by omega),Option.bind_some,Bool.false_eq_true,if_false]
     exact ev_const _
    refine ev_bind es (ev_bind t1 ?_)
    simp only [if_true]
    refine ev_bind p1 ?_
    simp only [if_true]
    by_cases y:x < 0
    ·simp only [if_pos y]; exact bad
    ·simp only [if_neg y,decide_eq_true (show x > 8 by omega)]; exact bad
theorem FnValues:Pure:= by
 intro cd ⟨_,_⟩
 refine Ev.rounds ?_
 unfold laws_FnValues.f laws_big.f
 simp only [Option.bind_some]
 by_cases hbig:(cd.length:Int) > 1048576
 ·simp only [decide_eq_true hbig,if_true]; exact ev_const _
 simp only [decide_eq_false hbig,Bool.false_eq_true,if_false]
 have hcd:cd.length <= 1048576:= by omega
 have h3:= law3 cd hcd
 obtain ⟨a,b,c,d,e,n,r,ed,ha,hb,hc,hd⟩:= draw_look cd hcd
 obtain ⟨t,t1,t2,t3⟩:= hok_cases a b c d (by omega) (by omega) (by omega) (by omega)
 obtain ⟨q,l1,l2⟩:= lookup_both a b c d (by omega) (by omega) (by omega) (by omega) e n r 5000001 (by omega)
 have el1:Ev (fun k => spec_LookUp.f k a b c d e n r) q:= ev_at 5000001 fun k hk => at_rounds (spec_LookUp.mono a b c d e n r) hk l1
 have el2:Ev (fun k => impl_LookUp.f k a b c d e n r) q:= ev_at 5000001 fun k hk => at_rounds (impl_LookUp.mono a b c d e n r) hk l2
 refine ev_bind ed (ev_bind el2 (ev_bind el1 ?_))
 simp only [bne_self_eq_false,Bool.false_eq_true,if_false]
 have w1:wrap64 ((a.length:Int) - 1) = (a.length:Int) - 1:= by unfold wrap64; omega

 have found:t = true -> -1 <= e /\ e < a.length -> Ev (fun k => impl_Heap_lookUp.l0 k e a b c d n r) q /\ (q.2.2 = true -> vOK b c d q.1 q.2.1):= fun ht he => by
  subst ht
  obtain ⟨q',h1,h2⟩:= look_one a b c d (t3 rfl) n r a.length e he.2 he.2
  have:= ev_uniq (lookup_in a b c d (by omega) t2 e n r he h1) el2
  subst this
  exact ⟨h1,h2⟩
 have none':¬ (t = true /\ -1 <= e /\ e < a.length) -> q.2.2 = false:= fun hn => by
  have:Ev (fun k => impl_LookUp.f k a b c d e n r) (0,0,false):= by
   unfold impl_LookUp.f
   refine ev_bind t2 ?_
   cases t
   ·simp only [Bool.false_eq_true,if_false]; exact ev_const _
   ·simp only [if_true,w1,in_i,decide_eq_false (show ¬ (e >= -1 /\ e <= (a.length:Int) - 1) from fun z => hn ⟨rfl,by omega,by omega⟩),Option.bind_some,Bool.false_eq_true,if_false]
    exact ev_const _
  have:= ev_uniq this el2
  subst this
  rfl
 have j0:Ev (fun k => laws_FnValues.j0 k cd e q.2.2 false a b c d n r q.1 q.2.1) true:= by
  apply ev_step
  simp only [laws_FnValues.j0,Bool.false_eq_true,if_false]
  refine ev_bind t1 ?_
  have skip:Ev (fun k => laws_FnValues.j1 k cd e q.2.2 false a b c d n r q.1 q.2.1) true:= by
   apply ev_step
   simp only [laws_FnValues.j1,Bool.false_eq_true,if_false]
   exact h3
  cases t
  ·simp only [Bool.false_eq_true,if_false]; exact skip
  ·simp only [if_true]
   by_cases e0:e >= 0
   ·by_cases e1:e < (a.length:Int)
    ·simp only [if_pos e0,decide_eq_true e1]
     obtain ⟨f1,f2⟩:= found rfl ⟨by omega,e1⟩
     obtain ⟨j,rfl⟩:∃ j:Nat,e = j:= ⟨e.toNat,by omega⟩
     obtain ⟨x1,x2,x3⟩:= (t3 rfl).env j (by omega)
     obtain ⟨q',g1,g2⟩:= look_one a b c d (t3 rfl) n r a.length (rd_T41 a j).f3 (by omega) (by omega)
     have nx:= lookup_in a b c d (by omega) t2 (rd_T41 a j).f3 n r (by omega) g1
     have c0:0 <= (j:Int):= e0
     apply ev_step
     simp only [laws_FnValues.j1,if_true,if_pos c0,if_pos e1]
     by_cases m0:(rd_T41 a j).f0 = n
     ·by_cases m1:(rd_T41 a j).f1 = r
      ·have eq:q = ((rd_T41 a j).f2.f0,(rd_T41 a j).f2.f1,true):= by
        refine ev_uniq f1 (ev_step ?_)
        simp only [impl_Heap_lookUp.l0,if_pos e0,if_pos c0,if_pos e1,if_pos m0,if_pos m1]
        exact ev_const _
       subst eq
       simp only [if_pos m0,if_pos m1,if_true,beq_self_eq_true,Bool.not_true,Bool.or_false]
       apply ev_step
       simp only [laws_FnValues.j2,Bool.false_eq_true,if_false]
       refine ev_bind nx ?_
       simp only [if_pos m0,if_pos m1]
       exact h3
      ·have eq:q = q':= by
        refine ev_uniq f1 (ev_step ?_)
        simp only [impl_Heap_lookUp.l0,if_pos e0,if_pos c0,if_pos e1,if_pos m0,if_neg m1]
        exact g1
       subst eq
       simp only [if_pos m0,if_neg m1]
       apply ev_step
       simp only [laws_FnValues.j2,Bool.false_eq_true,if_false]
       refine ev_bind nx ?_
       simp only [if_pos m0,if_neg m1,bne_self_eq_false,Bool.false_eq_true,if_false,beq_self_eq_true,Bool.not_true,Bool.or_false]
       exact h3
     ·have eq:q = q':= by
       refine ev_uniq f1 (ev_step ?_)
       simp only [impl_Heap_lookUp.l0,if_pos e0,if_pos c0,if_pos e1,if_neg m0]
       exact g1
      subst eq
      simp only [if_neg m0]
      apply ev_step
      simp only [laws_FnValues.j2,Bool.false_eq_true,if_false]
      refine ev_bind nx ?_
      simp only [if_neg m0,bne_self_eq_false,Bool.false_eq_true,if_false,beq_self_eq_true,Bool.not_true,Bool.or_false]
      exact h3
    ·simp only [if_pos e0,decide_eq_false e1]; exact skip
   ·simp only [if_neg e0]; exact skip
 cases hq:q.2.2
 ·simp only [Bool.false_eq_true,if_false]
  rw [hq] at j0
  exact j0
 ·simp only [if_true]
  have hin:t = true /\ -1 <= e /\ e < a.length:= by
   rcases Classical.em (t = true /\ -1 <= e /\ e < (a.length:Int)) with z | z
   ·exact z
   ·have:= none' z; rw [hq] at this; cases this
  have hv:= (found hin.1 hin.2).2 hq
  obtain ⟨p,_,p2,p3⟩:= vok_cases a b c d (by omega) (by omega) (by omega) q.1 q.2.1
  have:= p3.2 hv
  subst this
  refine ev_bind p2 ?_
  rw [hq] at j0
  simp only [Bool.not_true]
  exact j0
end Go.Proofs.YtlhofeikcaejpaaDoor.Pure

