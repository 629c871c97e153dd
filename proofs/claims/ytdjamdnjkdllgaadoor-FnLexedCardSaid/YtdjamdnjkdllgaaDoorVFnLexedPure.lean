/- PureFnLexed, of the words and walks that the law FnLexed needs; made by this session's program out of printed texts. -/

import Derived.Test.YtdjamdnjkdllgaaDoorVFnLexedSay
import Derived.Laws.Strings
import Derived.Laws.BitsLemmas
set_option linter.unusedVariables false
set_option linter.unusedSimpArgs false
set_option linter.unusedSectionVars false
namespace Go.Proofs.YtdjamdnjkdllgaaDoor.Pure
open Go.RowKit Go.Proofs.YtdjamdnjkdllgaaDoor.PFnLexed Go.Proofs.YtdjamdnjkdllgaaDoorW.PrintWords Go.Proofs.YtdjamdnjkdllgaaDoorW.PrintLast Go.Proofs.YtdjamdnjkdllgaaDoor.SayFnLexed
theorem wrap_next (i:Nat) (h:i < 4611686018427387904):wrap64 ((i:Int) + 1) = ((i + 1:Nat):Int):= by unfold wrap64; omega
theorem ev_step {α:Type} {g:Nat -> Option α} {r:α} (h:Ev (fun k => g (k + 1)) r):Ev g r:= Ev.step (fun _ => rfl) h
theorem ev_bind {α β:Type} {g:Nat -> Option α} {f:Nat -> α -> Option β} {a:α} {r:β} (h:Ev g a) (k:Ev (fun n => f n a) r):Ev (fun n => (g n).bind (f n)) r:= Ev.bind h k
theorem ev_const {α:Type} (r:α):Ev (fun _ => some r) r:= Ev.now r
theorem ev_eq {α:Type} {g:Nat -> Option α} {r q:α} (h:Ev g r) (e:r = q):Ev g q:= e ▸ h
theorem and255 (n:Int):Go.bits .and .i64 n 255 = n % 256:= by
 have h:(BitVec.ofInt 64 255).toNat = 2 ^ 8 - 1:= by decide
 have key:(BitVec.ofInt 64 n &&& BitVec.ofInt 64 255).toNat = (n % ((2 ^ 64:Nat):Int)).toNat % 2 ^ 8:= by
  rw [BitVec.toNat_and,BitVec.toNat_ofInt,h,Nat.and_two_pow_sub_one_eq_mod]
 show IntKind.i64.wrap ((BitVec.ofInt 64 n &&& BitVec.ofInt 64 255).toNat:Nat) = n % 256
 rw [key,IntKind.wrap_i64]
 omega
def Cur (c:List Int) (i:Int):Prop:= 0 <= i /\ i <= c.length
theorem new_loop (c:List Int) (hc:c.length <= 1048576) (d:Nat):∀ (i:Nat) (x:Int),i + d = c.length -> ∃ h,Ev (fun k => spec_l1New.l0 k c x (i:Int)) (c,0,h):= by
 induction d with
 | zero =>
  intro i x hi
  refine ⟨x,ev_step ?_⟩
  simp only [spec_l1New.l0,if_neg (show ¬ (i:Int) < (c.length:Int) by omega)]
  exact ev_const _
 | succ d ih =>
  intro i x hi
  have h1:(i:Int) < (c.length:Int):= by omega
  have h0:0 <= (i:Int):= Int.natCast_nonneg i
  by_cases h4:(i:Int) < 4000
  ·obtain ⟨h,q⟩:= ih (i + 1) (Go.bits .and .i64 (wrap64 ((wrap64 ((wrap64 (x * 131)) + (wrap64 (rd c (i:Int))))) + 7)) 1073741823) (by omega)
   refine ⟨h,ev_step ?_⟩
   simp only [spec_l1New.l0,if_pos h1,if_pos h4,if_pos h0,wrap_next i (by omega)]
   exact q
  ·refine ⟨x,ev_step ?_⟩
   simp only [spec_l1New.l0,if_pos h1,if_neg h4]
   exact ev_const _
theorem new_ev (c:List Int) (hc:c.length <= 1048576):∃ h,Ev (fun k => spec_l1New.f k c) (c,0,h):= new_loop c hc c.length 0 _ (by omega)
theorem cur0 (c:List Int):Cur c 0:= ⟨by omega,by omega⟩
theorem byte_ok (c:List Int) (hc:c.length <= 1048576) (i h:Int) (hi:Cur c i):∃ x j g,spec_l1Byte.f c i h = some (x,j,g) /\ 0 <= x /\ x <= 255 /\ Cur c j:= by
 obtain ⟨h0,h1⟩:= hi
 unfold spec_l1Byte.f
 by_cases z:i < (c.length:Int)
 ·have w:wrap64 (i + 1) = i + 1:= by unfold wrap64; omega
  simp only [if_pos z,if_pos h0,w,and255]
  exact ⟨_,_,_,rfl,by omega,by omega,by omega,by omega⟩
 ·simp only [if_neg z,and255]
  exact ⟨_,_,_,rfl,by omega,by omega,h0,h1⟩
theorem below_ok (c:List Int) (hc:c.length <= 1048576) (i h:Int) (hi:Cur c i) (n:Int):∃ x j g,spec_l1Below.f c i h n = some (x,j,g) /\ 0 <= x /\ (0 < n -> x < n) /\ (n <= 0 -> x = 0) /\ Cur c j:= by
 unfold spec_l1Below.f
 by_cases z:n <= 0
 ·rw [if_pos z]
  exact ⟨_,_,_,rfl,by omega,fun q => by omega,fun _ => rfl,hi⟩
 ·rw [if_neg z]
  have z0:¬ n = 0:= by omega
  by_cases z2:n <= 256
  ·rw [if_pos z2]
   obtain ⟨x,j,g,e,h0,h1,h2⟩:= byte_ok c hc i h hi
   rw [e]
   simp only [Option.bind_some,if_neg z0]
   refine ⟨_,_,_,rfl,?_,fun _ => ?_,fun q => by omega,h2⟩
   ·exact Int.tmod_nonneg _ h0
   ·rw [Int.tmod_eq_emod_of_nonneg h0]; exact Int.emod_lt_of_pos _ (by omega)
  ·rw [if_neg z2]
   obtain ⟨x,j,g,e,h0,h1,h2⟩:= byte_ok c hc i h hi
   rw [e]; simp only [Option.bind_some]
   obtain ⟨x2,j2,g2,e,h02,h12,h22⟩:= byte_ok c hc j g h2
   rw [e]; simp only [Option.bind_some]
   obtain ⟨x3,j3,g3,e,h03,h13,h23⟩:= byte_ok c hc j2 g2 h22
   rw [e]; simp only [Option.bind_some]
   obtain ⟨x4,j4,g4,e,h04,h14,h24⟩:= byte_ok c hc j3 g3 h23
   rw [e]; simp only [Option.bind_some,if_neg z0]
   have w:wrap64 ((wrap64 ((wrap64 ((wrap64 (x * 16777216)) + (wrap64 (x2 * 65536)))) + (wrap64 (x3 * 256)))) + x4) = x * 16777216 + x2 * 65536 + x3 * 256 + x4:= by unfold wrap64; omega
   rw [w]
   have hp:0 <= x * 16777216 + x2 * 65536 + x3 * 256 + x4:= by omega
   refine ⟨_,_,_,rfl,Int.tmod_nonneg _ hp,fun _ => ?_,fun q => by omega,h24⟩
   rw [Int.tmod_eq_emod_of_nonneg hp]; exact Int.emod_lt_of_pos _ (by omega)
theorem digs (l:List UInt8):(⟨l.toArray⟩:ByteArray).size = l.length:= by simp [ByteArray.size]
theorem one_num (d:Nat) (h:d < 10):strOfNums [wrap64 (48 + (d:Int)) % 256] = (⟨[UInt8.ofNat (48 + d)].toArray⟩:ByteArray):= by
 have e:wrap64 (48 + (d:Int)) % 256 = ((48 + d:Nat):Int):= by unfold wrap64; omega
 rw [e]
 unfold strOfNums
 simp only [List.map_cons,List.map_nil]
 rfl
theorem bytes_add (a b:List UInt8):(⟨a.toArray⟩:ByteArray) ++ (⟨b.toArray⟩:ByteArray) = (⟨(a ++ b).toArray⟩:ByteArray):= ByteArray.mk_append_mk a b
theorem dec_step (u:Nat) (h:10 <= u):Lib.decDigits u = Lib.decDigits (u / 10) ++ [UInt8.ofNat (48 + u % 10)]:= by
 rw [Lib.decDigits,dif_neg (by omega)]
theorem dec_last (u:Nat) (h:u < 10):Lib.decDigits u = [UInt8.ofNat (48 + u)]:= by
 rw [Lib.decDigits,dif_pos h]
def decM (n:Int):ByteArray:= ⟨(Lib.itoa n).toArray⟩
theorem dec_end (x3:ByteArray) (b:Bool) (hs:x3.size <= 1000):Ev (fun k => spec_Dec.l0 k 0 x3 b) (if b = true then (⟨#[45]⟩:ByteArray) ++ x3 else x3):= by
 apply ev_step
 have h1:1 + x3.size <= 9223372036854775807:= by omega
 cases b
 ·simp only [spec_Dec.l0,if_true,Bool.false_eq_true,if_false]
  exact ev_const _
 ·simp only [spec_Dec.l0,if_true,if_pos h1]
  exact ev_const _
theorem dec_loop (u:Nat):∀ (x:Int) (t:List UInt8) (b:Bool),u <= 9223372036854775808 -> 0 < u -> (x = (u:Int) /\ u <= 9223372036854775807 \/ x = -(u:Int)) -> t.length + u.log2 <= 500 ->
  Ev (fun k => spec_Dec.l0 k x (⟨t.toArray⟩:ByteArray) b) (if b = true then (⟨#[45]⟩:ByteArray) ++ (⟨(Lib.decDigits u ++ t).toArray⟩:ByteArray) else (⟨(Lib.decDigits u ++ t).toArray⟩:ByteArray)):= by
 induction u using Nat.strongRecOn with
 | _ u ih =>
  intro x t b hu h0 hx ht
  have hne:¬ x = 0:= by omega
  have hd:u % 10 < 10:= Nat.mod_lt _ (by omega)
  have hsz:(strOfNums [wrap64 (48 + ((u % 10:Nat):Int)) % 256]).size = 1:= rfl
  have hts:(⟨t.toArray⟩:ByteArray).size = t.length:= digs t
  have h1:(strOfNums [wrap64 (48 + ((u % 10:Nat):Int)) % 256]).size + (⟨t.toArray⟩:ByteArray).size <= 9223372036854775807:= by rw [hsz,hts]; omega
  have next:Ev (fun k => spec_Dec.l0 k (wrap64 (Int.tdiv x 10)) (strOfNums [wrap64 (48 + ((u % 10:Nat):Int)) % 256] ++ (⟨t.toArray⟩:ByteArray)) b) (if b = true then (⟨#[45]⟩:ByteArray) ++ (⟨(Lib.decDigits u ++ t).toArray⟩:ByteArray) else (⟨(Lib.decDigits u ++ t).toArray⟩:ByteArray)):= by
   rw [one_num _ hd,bytes_add]
   by_cases c:u < 10
   ·have e:wrap64 (Int.tdiv x 10) = 0:= by
     rcases hx with ⟨rfl,_⟩ | rfl
     ·rw [Int.tdiv_eq_ediv_of_nonneg (by omega)]; unfold wrap64; omega
     ·rw [Int.neg_tdiv,Int.tdiv_eq_ediv_of_nonneg (by omega)]; unfold wrap64; omega
    rw [e,dec_last u c,show u % 10 = u from Nat.mod_eq_of_lt c]
    exact dec_end _ b (by rw [digs]; simp; omega)
   ·have hl:(u / 10).log2 + 1 <= u.log2:= by
     have h2:u / 10 <= u / 2:= by omega
     have h4:2 ^ u.log2 <= u:= Nat.log2_self_le (by omega)
     have h5:u < 2 ^ (u.log2 + 1):= Nat.lt_log2_self
     have h6:(u / 10).log2 < u.log2:= (Nat.log2_lt (by omega)).2 (by rw [Nat.pow_succ] at h5; omega)
     omega
    have:= ih (u / 10) (by omega) (wrap64 (Int.tdiv x 10)) ([UInt8.ofNat (48 + u % 10)] ++ t) b (by omega) (by omega) (by
     rcases hx with ⟨rfl,hx⟩ | rfl
     ·left
      rw [Int.tdiv_eq_ediv_of_nonneg (by omega)]; unfold wrap64; omega
     ·right
      rw [Int.neg_tdiv,Int.tdiv_eq_ediv_of_nonneg (by omega)]; unfold wrap64; omega) (by simp; omega)
    rw [dec_step u (by omega),List.append_assoc]
    exact this
  apply ev_step
  by_cases hn:Int.tmod x 10 < 0
  ·have e:wrap64 (-(Int.tmod x 10)) = ((u % 10:Nat):Int):= by
    rcases hx with ⟨rfl,_⟩ | rfl
    ·rw [Int.tmod_eq_emod_of_nonneg (by omega)] at hn; omega
    ·rw [Int.neg_tmod,Int.tmod_eq_emod_of_nonneg (by omega)]; unfold wrap64; omega
   simp only [spec_Dec.l0,if_neg hne,if_pos hn,Option.bind_some,e,if_pos h1]
   exact next
  ·have e:Int.tmod x 10 = ((u % 10:Nat):Int):= by
    rcases hx with ⟨rfl,_⟩ | rfl
    ·rw [Int.tmod_eq_emod_of_nonneg (by omega)]; omega
    ·rw [Int.neg_tmod,Int.tmod_eq_emod_of_nonneg (by omega)] at hn ⊢; omega
   simp only [spec_Dec.l0,if_neg hne,if_neg hn,Option.bind_some,e,if_pos h1]
   exact next
theorem spec_dec (n:Int) (h0:-9223372036854775808 <= n) (h1:n <= 9223372036854775807):Ev (fun k => spec_Dec.f k n) (decM n):= by
 unfold spec_Dec.f
 by_cases c:n = 0
 ·simp only [if_pos c]
  refine ev_eq (ev_const _) ?_
  subst c
  unfold decM Lib.itoa
  rw [if_neg (by omega)]
  rw [show (0:Int).toNat = 0 from rfl,dec_last 0 (by omega)]
  rfl
 ·simp only [if_neg c]
  have hl:n.natAbs.log2 <= 64:= by
   have:n.natAbs.log2 < 65:= (Nat.log2_lt (by omega)).2 (by omega)
   omega
  have:= dec_loop n.natAbs n [] (decide (n < 0)) (by omega) (by omega) (by omega) (by simp; omega)
  refine ev_eq this ?_
  unfold decM Lib.itoa
  rw [List.append_nil]
  by_cases s:n < 0
  ·rw [decide_eq_true s,if_pos rfl,if_pos s]
   rw [show (⟨#[45]⟩:ByteArray) = (⟨[45].toArray⟩:ByteArray) from rfl,bytes_add]
   rfl
  ·rw [decide_eq_false s,if_neg (by simp),if_neg s,show n.natAbs = n.toNat by omega]
def mk8 (t:List UInt8):ByteArray:= ⟨t.toArray⟩
theorem mk8_size (t:List UInt8):(mk8 t).size = t.length:= by simp [mk8,ByteArray.size]
theorem mk8_bt (s:List UInt8) (j:Nat) (h:j < s.length):bt (mk8 s) (j:Int) = ((s[j]).toNat:Int):= by
 unfold bt
 rw [dif_pos (by rw [mk8_size]; exact h)]
 rfl
def dvN:Int -> List UInt8 -> Int
 | n,[] => n
 | n,c :: r => dvN (if 48 <= (c.toNat:Int) /\ (c.toNat:Int) <= 57 then n * 10 + ((c.toNat:Int) - 48) else n) r
def dvK:Nat -> List UInt8 -> Nat
 | n,[] => n
 | n,c :: r => dvK (if 48 <= (c.toNat:Int) /\ (c.toNat:Int) <= 57 then n + 1 else n) r
def bneg:List UInt8 -> Bool
 | [] => false
 | c :: _ => (c.toNat:Int) == 45
def sg (b:Bool) (n:Int):Int:= if b = true then -n else n
theorem dvN_app (c:UInt8) (a:List UInt8):∀ n,dvN n (a ++ [c]) = dvN (dvN n a) [c]:= by
 induction a with
 | nil => intro n; rfl
 | cons x a ih => intro n; simp only [List.cons_append,dvN]; exact ih _
theorem dvK_app (c:UInt8) (a:List UInt8):∀ n,dvK n (a ++ [c]) = dvK (dvK n a) [c]:= by
 induction a with
 | nil => intro n; rfl
 | cons x a ih => intro n; simp only [List.cons_append,dvK]; exact ih _
theorem dv_lt (l:List UInt8):∀ (n:Int) (c:Nat),0 <= n -> n < 10 ^ c -> 0 <= dvN n l /\ dvN n l < 10 ^ dvK c l:= by
 induction l with
 | nil => intro n c h0 h1; exact ⟨h0,h1⟩
 | cons x l ih =>
  intro n c h0 h1
  simp only [dvN,dvK]
  split
  ·exact ih _ _ (by omega) (by rw [Int.pow_succ]; omega)
  ·exact ih _ _ h0 h1
theorem dvK_le (l:List UInt8):∀ c,dvK c l <= c + l.length:= by
 induction l with
 | nil => intro c; exact Nat.le_refl _
 | cons x l ih =>
  intro c
  simp only [dvK,List.length_cons]
  split
  ·have:= ih (c + 1); omega
  ·have:= ih c; omega
theorem dig_nat (u:Nat) (h:u < 10):((UInt8.ofNat (48 + u)).toNat:Int) = 48 + (u:Int):= by
 rw [UInt8.toNat_ofNat_of_lt' (by show 48 + u < 256; omega)]; omega
theorem dv_digits (u:Nat):dvN 0 (Lib.decDigits u) = (u:Int) /\ ∀ c,dvK c (Lib.decDigits u) = c + (Lib.decDigits u).length:= by
 induction u using Nat.strongRecOn with
 | _ u ih =>
  by_cases h:u < 10
  ·rw [dec_last u h]
   have:= dig_nat u h
   refine ⟨?_,fun c => ?_⟩
   ·simp only [dvN,this]; rw [if_pos (by omega)]; omega
   ·simp only [dvK,this,List.length_cons,List.length_nil]; rw [if_pos (by omega)]
  ·obtain ⟨i1,i2⟩:= ih (u / 10) (by omega)
   have:= dig_nat (u % 10) (by omega)
   rw [dec_step u (by omega)]
   refine ⟨?_,fun c => ?_⟩
   ·rw [dvN_app,i1]
    simp only [dvN,this]; rw [if_pos (by omega)]; omega
   ·rw [dvK_app,i2]
    simp only [dvK,this,List.length_append,List.length_cons,List.length_nil]; rw [if_pos (by omega)]; omega
theorem dec_len1 (d:Nat):∀ u:Nat,u < 10 ^ (d + 1) -> (Lib.decDigits u).length <= d + 1:= by
 induction d with
 | zero => intro u h; rw [dec_last u (by simpa using h)]; simp
 | succ d ih =>
  intro u h
  by_cases c:u < 10
  ·rw [dec_last u c]; simp
  ·rw [dec_step u (by omega),List.length_append]
   have:= ih (u / 10) (by rw [Nat.pow_succ] at h; omega)
   simp
   omega
theorem dec_head (u:Nat):∃ c r,Lib.decDigits u = c :: r /\ 48 <= c.toNat /\ c.toNat <= 57:= by
 induction u using Nat.strongRecOn with
 | _ u ih =>
  by_cases h:u < 10
  ·rw [dec_last u h]
   have:= dig_nat u h
   exact ⟨_,_,rfl,by omega,by omega⟩
  ·obtain ⟨c,r,e,h1,h2⟩:= ih (u / 10) (by omega)
   rw [dec_step u (by omega),e]
   exact ⟨c,r ++ [UInt8.ofNat (48 + u % 10)],rfl,h1,h2⟩
theorem parse_app (c:UInt8) (a:List UInt8):∀ n m,Lib.parseUint10 n a = .ok m -> Lib.parseUint10 n (a ++ [c]) = Lib.parseUint10 m [c]:= by
 induction a with
 | nil => intro n m h; simp only [Lib.parseUint10] at h; injection h with h; subst h; rfl
 | cons x a ih =>
  intro n m h
  simp only [Lib.parseUint10,List.cons_append] at h ⊢
  split at h
  ·rename_i h1
   rw [if_pos h1]
   split at h
   ·cases h
   ·rename_i h2
    rw [if_neg h2]
    split at h
    ·cases h
    ·rename_i h3
     rw [if_neg h3]
     have:= ih _ _ h
     simpa only [Lib.parseUint10] using this
  ·cases h
theorem parse_digits (u:Nat) (h:u < 18446744073709551616):Lib.parseUint10 0 (Lib.decDigits u) = .ok u:= by
 induction u using Nat.strongRecOn with
 | _ u ih =>
  by_cases h1:u < 10
  ·rw [dec_last u h1]
   have:= dig_nat u h1
   simp only [Lib.parseUint10]
   rw [if_pos (by omega),if_neg (by omega),if_neg (by omega)]
   congr 1; omega
  ·have:= dig_nat (u % 10) (by omega)
   rw [dec_step u (by omega),parse_app _ _ _ _ (ih (u / 10) (by omega) (by omega))]
   simp only [Lib.parseUint10]
   rw [if_pos (by omega),if_neg (by omega),if_neg (by omega)]
   congr 1; omega
theorem atoi_itoa (m:Int) (h0:-9223372036854775808 <= m) (h1:m <= 9223372036854775807):Lib.atoiAll (Lib.itoa m) = .ok m:= by
 unfold Lib.itoa
 by_cases s:m < 0
 ·rw [if_pos s]
  obtain ⟨c,r,e,h2,h3⟩:= dec_head m.natAbs
  have hp:= parse_digits m.natAbs (by omega)
  have hne:Lib.decDigits m.natAbs ≠ []:= by rw [e]; simp
  simp only [Lib.atoiAll]
  rw [if_pos (by decide),Lib.parseMag,if_neg hne,hp]
  simp only []
  rw [if_neg (by simp),if_neg (by simp; omega)]
  congr 1
  rw [if_pos (by decide)]; omega
 ·rw [if_neg s]
  obtain ⟨c,r,e,h2,h3⟩:= dec_head m.toNat
  have hp:= parse_digits m.toNat (by omega)
  rw [e] at hp ⊢
  simp only [Lib.atoiAll]
  rw [if_neg (by omega),Lib.parseMag,if_neg (by simp),hp]
  simp only []
  rw [if_neg (by omega),if_neg (by omega)]
  congr 1
  rw [if_neg (by omega)]; omega
theorem itoa_len (m:Int) (h0:-999999999 <= m) (h1:m <= 999999999):(Lib.itoa m).length <= 10:= by
 unfold Lib.itoa
 split
 ·have:= dec_len1 8 m.natAbs (by omega)
  simp only [List.length_cons]; omega
 ·have:= dec_len1 8 m.toNat (by omega)
  omega
theorem itoa_dv (m:Int) (h0:-999999999 <= m) (h1:m <= 999999999):sg (bneg (Lib.itoa m)) (dvN 0 (Lib.itoa m)) = m /\ dvK 0 (Lib.itoa m) <= 9:= by
 unfold Lib.itoa
 split
 ·obtain ⟨d1,d2⟩:= dv_digits m.natAbs
  have:= dec_len1 8 m.natAbs (by omega)
  have z:¬ (48 <= (((45:UInt8).toNat:Nat):Int) /\ (((45:UInt8).toNat:Nat):Int) <= 57):= by decide
  refine ⟨?_,?_⟩
  ·simp only [bneg,dvN,if_neg z,d1,sg]
   rw [if_pos (by decide)]; omega
  ·simp only [dvK,if_neg z,d2]; omega
 ·obtain ⟨d1,d2⟩:= dv_digits m.toNat
  have:= dec_len1 8 m.toNat (by omega)
  obtain ⟨c,r,e,h2,h3⟩:= dec_head m.toNat
  refine ⟨?_,?_⟩
  ·rw [d1,e]
   have hb:bneg (c :: r) = false:= beq_eq_false_iff_ne.mpr (by omega)
   simp only [sg,hb,Bool.false_eq_true,if_false]; omega
  ·rw [d2]; omega
theorem tl_iff (a b:ByteArray):a.toList = b.toList ↔ a = b:= by
 rw [ByteArray.toList_eq,ByteArray.toList_eq]
 constructor
 ·intro h
  cases a; cases b
  congr 1
  exact Array.toList_inj.1 h
 ·intro h; rw [h]
def rdM (l:List UInt8):Int × Bool:= if dvK 0 (l.take 11) <= 9 /\ l.length <= 10 /\ decM (sg (bneg l) (dvN 0 (l.take 11))) = mk8 l then (sg (bneg l) (dvN 0 (l.take 11)),true) else (0,false)
theorem rdM_itoa (m:Int) (h0:-999999999 <= m) (h1:m <= 999999999):rdM (Lib.itoa m) = (m,true):= by
 have e:(Lib.itoa m).take 11 = Lib.itoa m:= List.take_of_length_le (by have:= itoa_len m h0 h1; omega)
 obtain ⟨d1,d2⟩:= itoa_dv m h0 h1
 unfold rdM
 rw [e,d1,if_pos ⟨d2,itoa_len m h0 h1,rfl⟩]
theorem rdM_no (l:List UInt8) (h:¬ ∃ m:Int,-999999999 <= m /\ m <= 999999999 /\ Lib.itoa m = l):rdM l = (0,false):= by
 unfold rdM
 rw [if_neg]
 rintro ⟨h1,h2,h3⟩
 obtain ⟨g0,g1⟩:= dv_lt (l.take 11) 0 0 (by omega) (by decide)
 have hp:(10:Int) ^ (dvK 0 (l.take 11)) <= 10 ^ 9:= by
  have:(10:Nat) ^ (dvK 0 (l.take 11)) <= 10 ^ 9:= Nat.pow_le_pow_right (by omega) h1
  exact_mod_cast this
 refine h ⟨sg (bneg l) (dvN 0 (l.take 11)),?_,?_,?_⟩
 ·unfold sg; split <;> omega
 ·unfold sg; split <;> omega
 ·have:= congrArg (fun b:ByteArray => b.data.toList) h3
  simpa [decM,mk8] using this
theorem impl_dec (n:Int) (h0:-9223372036854775808 <= n) (h1:n <= 9223372036854775807):impl_Dec.f n = some (decM n):= by
 unfold impl_Dec.f strconv_Itoa_34.f
 rw [if_pos h0,if_pos h1]
 rfl
theorem readdec_impl (l:List UInt8) (hl:l.length <= 281474976710656):impl_ReadDec.f (mk8 l) = some (rdM l):= by
 unfold impl_ReadDec.f
 rw [if_pos (by rw [mk8_size]; exact hl)]
 rw [show (mk8 l).data.toList = l from rfl]
 by_cases h:∃ m:Int,-999999999 <= m /\ m <= 999999999 /\ Lib.itoa m = l
 ·obtain ⟨m,h0,h1,rfl⟩:= h
  rw [rdM_itoa m h0 h1,atoi_itoa m (by omega) (by omega)]
  simp only [impl_dec m (by omega) (by omega),Option.bind_some]
  rw [if_pos (show (decM m).toList = (mk8 (Lib.itoa m)).toList from rfl)]
  unfold impl_in.f
  simp only [if_pos (show m >= -999999999 from h0),Option.bind_some,decide_eq_true h1,if_true]
 ·rw [rdM_no l h]
  cases e:Lib.atoiAll l with
  | ok v =>
   obtain ⟨b0,b1⟩:= Lib.atoiAll_bounds e
   simp only [impl_dec v b0 b1,Option.bind_some]
   by_cases c:(decM v).toList = (mk8 l).toList
   ·rw [if_pos c]
    unfold impl_in.f
    by_cases c0:v >= -999999999
    ·by_cases c1:v <= 999999999
     ·refine absurd ⟨v,c0,c1,?_⟩ h
      have:= congrArg (fun b:ByteArray => b.data.toList) ((tl_iff _ _).1 c)
      simpa [decM,mk8] using this
     ·simp [if_pos c0,c1]
    ·simp [if_neg c0]
   ·rw [if_neg c]
  | «syntax» => rfl
  | range => rfl
theorem rd_false (l:List UInt8) (n c x:Int) (r:Int × Bool) (h:Ev (fun k => spec_ReadDec.j2 k (mk8 l) n c (bneg l)) r):Ev (fun k => spec_ReadDec.j1 k (mk8 l) n c x false) r:= by
 apply ev_step
 simp only [spec_ReadDec.j1,Bool.false_eq_true,if_false]
 cases l with
 | nil =>
  have z:¬ ((mk8 []).size:Int) > 0:= by rw [mk8_size]; simp
  simp only [if_neg z]
  exact h
 | cons a l =>
  have z:((mk8 (a :: l)).size:Int) > 0:= by rw [mk8_size,List.length_cons]; omega
  have z2:0 < ((mk8 (a :: l)).size:Int):= z
  have z3:bt (mk8 (a :: l)) 0 = (a.toNat:Int):= mk8_bt (a :: l) 0 (by simp)
  simp only [if_pos z,if_pos z2,z3]
  exact h
theorem rd_gen (l:List UInt8) (m:Nat) (hm:m = min l.length 11) (d:Nat):∀ (i:Nat) (n:Int) (c:Nat),i + d = m -> 0 <= n -> n < 10 ^ i -> c <= i -> ∀ r,Ev (fun k => spec_ReadDec.j1 k (mk8 l) (dvN n ((l.drop i).take d)) ((dvK c ((l.drop i).take d):Nat):Int) (m:Int) false) r -> Ev (fun k => spec_ReadDec.l0 k (mk8 l) n (c:Int) (i:Int)) r:= by
 induction d with
 | zero =>
  intro i n c hi h0 h1 hc r h
  apply ev_step
  simp only [spec_ReadDec.l0,mk8_size]
  simp only [List.take_zero,dvN,dvK] at h
  obtain rfl:i = m:= by omega
  by_cases z:(i:Int) < (l.length:Int)
  ·have z2:decide ((i:Int) < 11) = false:= by simp; omega
   simp only [if_pos z,z2]
   exact h
  ·simp only [if_neg z]
   exact h
 | succ d ih =>
  intro i n c hi h0 h1 hc r h
  have hl:i < l.length:= by omega
  have e:(l.drop i).take (d + 1) = l[i] :: (l.drop (i + 1)).take d:= by rw [List.drop_eq_getElem_cons hl,List.take_succ_cons]
  rw [e] at h
  simp only [dvN,dvK] at h
  have z:(i:Int) < (l.length:Int):= by omega
  have z2:decide ((i:Int) < 11) = true:= by simp; omega
  have z0:0 <= (i:Int):= Int.natCast_nonneg i
  have hb:bt (mk8 l) (i:Int) = ((l[i]).toNat:Int):= mk8_bt l i hl
  have hp:(10:Int) ^ i <= 10 ^ 10:= by
   have:(10:Nat) ^ i <= 10 ^ 10:= Nat.pow_le_pow_right (by omega) (by omega)
   exact_mod_cast this
  have hp1:(10:Int) ^ (i + 1) = 10 ^ i * 10:= Int.pow_succ _ _
  apply ev_step
  simp only [spec_ReadDec.l0,mk8_size,if_pos z,z2]
  apply ev_step
  simp only [spec_ReadDec.j1,if_true,mk8_size,if_pos z,if_pos z0,hb,wrap_next i (by omega),wrap_next c (by omega)]
  by_cases g:48 <= ((l[i]).toNat:Int) /\ ((l[i]).toNat:Int) <= 57
  ·rw [if_pos g,if_pos g] at h
   have g1:((l[i]).toNat:Int) >= 48:= g.1
   have w1:wrap64 ((wrap64 (n * 10)) + ((((l[i]).toNat:Int) - 48) % 256)) = n * 10 + (((l[i]).toNat:Int) - 48):= by
    unfold wrap64; omega
   simp only [if_pos g1,if_pos g.2,w1]
   exact ih (i + 1) _ (c + 1) (by omega) (by omega) (by omega) (by omega) r h
  ·rw [if_neg g,if_neg g] at h
   by_cases g1:((l[i]).toNat:Int) >= 48
   ·have g2:¬ ((l[i]).toNat:Int) <= 57:= by omega
    simp only [if_pos g1,if_neg g2]
    exact ih (i + 1) n c (by omega) h0 (by omega) (by omega) r h
   ·simp only [if_neg g1]
    exact ih (i + 1) n c (by omega) h0 (by omega) (by omega) r h
theorem rd_j2 (l:List UInt8) (n:Int) (c:Nat) (b:Bool) (h0:0 <= n) (h1:n < 100000000000):Ev (fun k => spec_ReadDec.j2 k (mk8 l) n (c:Int) b) (if c <= 9 /\ l.length <= 10 /\ decM (sg b n) = mk8 l then (sg b n,true) else (0,false)):= by
 apply ev_step
 have w:wrap64 (-n) = -n:= by unfold wrap64; omega
 have d1:= spec_dec (-n) (by omega) (by omega)
 have d2:= spec_dec n (by omega) (by omega)
 by_cases hc:c <= 9
 ·have hc':¬ (c:Int) > 9:= by omega
  by_cases hl:l.length <= 10
  ·have hl':¬ (l.length:Int) > 10:= by omega
   cases b
   ·simp only [spec_ReadDec.j2,Bool.false_eq_true,if_false,if_neg hc',mk8_size,if_neg hl',sg,hc,hl,true_and]
    refine ev_bind d2 ?_
    simp only [tl_iff]
    by_cases q:decM n = mk8 l
    ·simp only [if_pos q]; exact ev_const _
    ·simp only [if_neg q]; exact ev_const _
   ·simp only [spec_ReadDec.j2,if_true,if_neg hc',mk8_size,if_neg hl',sg,hc,hl,true_and,w]
    refine ev_bind d1 ?_
    simp only [tl_iff]
    by_cases q:decM (-n) = mk8 l
    ·simp only [if_pos q]; exact ev_const _
    ·simp only [if_neg q]; exact ev_const _
  ·have hl':(l.length:Int) > 10:= by omega
   rw [if_neg (fun q => hl q.2.1)]
   cases b
   ·simp only [spec_ReadDec.j2,Bool.false_eq_true,if_false,if_neg hc',mk8_size,if_pos hl']
    exact ev_const _
   ·simp only [spec_ReadDec.j2,if_true,if_neg hc',mk8_size,if_pos hl']
    exact ev_const _
 ·have hc':(c:Int) > 9:= by omega
  rw [if_neg (fun q => hc q.1)]
  cases b
  ·simp only [spec_ReadDec.j2,Bool.false_eq_true,if_false,if_pos hc']
   exact ev_const _
  ·simp only [spec_ReadDec.j2,if_true,if_pos hc']
   exact ev_const _
theorem readdec_spec (l:List UInt8):Ev (fun k => spec_ReadDec.f k (mk8 l)) (rdM l):= by
 unfold spec_ReadDec.f
 have e:(l.drop 0).take (min l.length 11) = l.take 11:= by
  rw [List.drop_zero]
  by_cases h:l.length <= 11
  ·rw [Nat.min_eq_left h,List.take_of_length_le (Nat.le_refl _),List.take_of_length_le h]
  ·rw [Nat.min_eq_right (by omega)]
 have g:= dv_lt (l.take 11) 0 0 (by omega) (by decide)
 have hk:= dvK_le (l.take 11) 0
 have hp:(10:Int) ^ (dvK 0 (l.take 11)) <= 10 ^ 11:= by
  have:(10:Nat) ^ (dvK 0 (l.take 11)) <= 10 ^ 11:= Nat.pow_le_pow_right (by omega) (by simp at hk; omega)
  exact_mod_cast this
 have:= rd_gen l (min l.length 11) rfl (min l.length 11) 0 0 0 (by omega) (by omega) (by decide) (by omega) (rdM l)
 rw [e] at this
 exact this (rd_false l _ _ _ _ (rd_j2 l _ _ _ g.1 (by omega)))
def isIn (lo hi:Nat) (c:UInt8):Bool:= decide (lo <= c.toNat /\ c.toNat <= hi)
def isLet (c:UInt8):Bool:= isIn 97 122 c
def isDig (c:UInt8):Bool:= isIn 48 57 c
theorem take_tw {α:Type} (p:α -> Bool) (u:List α):u.take (u.takeWhile p).length = u.takeWhile p:= by
 induction u with
 | nil => rfl
 | cons a u ih =>
  rw [List.takeWhile_cons]
  split
  ·rw [List.length_cons,List.take_succ_cons,ih]
  ·rfl
theorem tw_le {α:Type} (p:α -> Bool) (u:List α):(u.takeWhile p).length <= u.length:= by
 induction u with
 | nil => simp
 | cons a u ih =>
  rw [List.takeWhile_cons]
  split
  ·simp only [List.length_cons]; omega
  ·simp
theorem tw_all {α:Type} (p:α -> Bool) (u:List α):(u.takeWhile p).all p = true:= by
 induction u with
 | nil => rfl
 | cons a u ih =>
  rw [List.takeWhile_cons]
  split
  ·rename_i h; rw [List.all_cons,h,ih]; rfl
  ·rfl
theorem ex8 (l:List UInt8) (i n:Nat):(mk8 l).extract i (i + n) = mk8 ((l.drop i).take n):= by
 apply ByteArray.ext
 apply Array.toList_inj.1
 rw [ByteArray.data_extract]
 simp only [mk8,Array.toList_extract,List.extract_eq_take_drop]
 congr 1; omega
theorem ex8i (l:List UInt8) (i n:Nat):(mk8 l).extract ((i:Nat):Int).toNat (((i + n:Nat):Nat):Int).toNat = mk8 ((l.drop i).take n):= ex8 l i n
theorem drop_at (l:List UInt8) (i:Nat) (h:i < l.length):l.drop i = l[i] :: l.drop (i + 1):= List.drop_eq_getElem_cons h
theorem run_impl (lo hi:Nat) (l:List UInt8) (hl:l.length <= 1000000) (d:Nat):∀ i,i + d = l.length -> Ev (fun k => impl_runOf.l0 k (mk8 l) (i:Int) (lo:Int) (hi:Int)) ((i + ((l.drop i).takeWhile (isIn lo hi)).length:Nat):Int):= by
 induction d with
 | zero =>
  intro i h
  apply ev_step
  have z:¬ (i:Int) < (l.length:Int):= by omega
  simp only [impl_runOf.l0,mk8_size,if_neg z]
  refine ev_eq (ev_const _) ?_
  rw [List.drop_of_length_le (by omega)]
  simp
 | succ d ih =>
  intro i h
  have hl:i < l.length:= by omega
  have z:(i:Int) < (l.length:Int):= by omega
  have z0:0 <= (i:Int):= Int.natCast_nonneg i
  apply ev_step
  simp only [impl_runOf.l0,mk8_size,if_pos z,if_pos z0,mk8_bt l i hl,wrap_next i (by omega)]
  rw [drop_at l i hl,List.takeWhile_cons]
  by_cases g:lo <= (l[i]).toNat /\ (l[i]).toNat <= hi
  ·have g1:((l[i]).toNat:Int) >= (lo:Int):= by omega
   have g2:((l[i]).toNat:Int) <= (hi:Int):= by omega
   rw [if_pos (by unfold isIn; exact decide_eq_true g)]
   simp only [if_pos g1,if_pos g2]
   refine ev_eq (ih (i + 1) (by omega)) ?_
   rw [List.length_cons]; omega
  ·rw [if_neg (by unfold isIn; simpa using g)]
   by_cases g1:((l[i]).toNat:Int) >= (lo:Int)
   ·have g2:¬ ((l[i]).toNat:Int) <= (hi:Int):= by omega
    simp only [if_pos g1,if_neg g2]
    exact ev_eq (ev_const _) (by simp)
   ·simp only [if_neg g1]
    exact ev_eq (ev_const _) (by simp)
theorem run_let (l:List UInt8) (hl:l.length <= 1000000) (d:Nat):∀ i,i + d = l.length -> Ev (fun k => spec_l2Run.l0 k (mk8 l) (i:Int) true) ((i + ((l.drop i).takeWhile isLet).length:Nat):Int):= by
 induction d with
 | zero =>
  intro i h
  apply ev_step
  have z:¬ (i:Int) < (l.length:Int):= by omega
  simp only [spec_l2Run.l0,mk8_size,if_neg z]
  refine ev_eq (ev_const _) ?_
  rw [List.drop_of_length_le (by omega)]
  simp
 | succ d ih =>
  intro i h
  have hl:i < l.length:= by omega
  have z:(i:Int) < (l.length:Int):= by omega
  have z0:0 <= (i:Int):= Int.natCast_nonneg i
  apply ev_step
  simp only [spec_l2Run.l0,mk8_size,if_pos z,if_pos z0,if_true,mk8_bt l i hl,wrap_next i (by omega),spec_l2Letter.f]
  rw [drop_at l i hl,List.takeWhile_cons]
  by_cases g:97 <= (l[i]).toNat /\ (l[i]).toNat <= 122
  ·have g1:((l[i]).toNat:Int) >= 97:= by omega
   have g2:((l[i]).toNat:Int) <= 122:= by omega
   rw [if_pos (show isLet l[i] = true by unfold isLet isIn; exact decide_eq_true g)]
   simp only [if_pos g1,decide_eq_true g2,Option.bind_some,if_true]
   refine ev_eq (ih (i + 1) (by omega)) ?_
   rw [List.length_cons]; omega
  ·rw [if_neg (show ¬ isLet l[i] = true by unfold isLet isIn; simpa using g)]
   by_cases g1:((l[i]).toNat:Int) >= 97
   ·have g2:¬ ((l[i]).toNat:Int) <= 122:= by omega
    simp only [if_pos g1,decide_eq_false g2,Option.bind_some,Bool.false_eq_true,if_false]
    exact ev_eq (ev_const _) (by simp)
   ·simp only [if_neg g1,Option.bind_some,Bool.false_eq_true,if_false]
    exact ev_eq (ev_const _) (by simp)
theorem run_dig (l:List UInt8) (hl:l.length <= 1000000) (d:Nat):∀ i,i + d = l.length -> Ev (fun k => spec_l2Run.l0 k (mk8 l) (i:Int) false) ((i + ((l.drop i).takeWhile isDig).length:Nat):Int):= by
 induction d with
 | zero =>
  intro i h
  apply ev_step
  have z:¬ (i:Int) < (l.length:Int):= by omega
  simp only [spec_l2Run.l0,mk8_size,if_neg z]
  refine ev_eq (ev_const _) ?_
  rw [List.drop_of_length_le (by omega)]
  simp
 | succ d ih =>
  intro i h
  have hl:i < l.length:= by omega
  have z:(i:Int) < (l.length:Int):= by omega
  have z0:0 <= (i:Int):= Int.natCast_nonneg i
  apply ev_step
  simp only [spec_l2Run.l0,mk8_size,if_pos z,if_pos z0,Bool.false_eq_true,if_false,mk8_bt l i hl,wrap_next i (by omega),spec_l2Digit.f]
  rw [drop_at l i hl,List.takeWhile_cons]
  by_cases g:48 <= (l[i]).toNat /\ (l[i]).toNat <= 57
  ·have g1:((l[i]).toNat:Int) >= 48:= by omega
   have g2:((l[i]).toNat:Int) <= 57:= by omega
   rw [if_pos (show isDig l[i] = true by unfold isDig isIn; exact decide_eq_true g)]
   simp only [if_pos g1,decide_eq_true g2,Option.bind_some,if_true]
   refine ev_eq (ih (i + 1) (by omega)) ?_
   rw [List.length_cons]; omega
  ·rw [if_neg (show ¬ isDig l[i] = true by unfold isDig isIn; simpa using g)]
   by_cases g1:((l[i]).toNat:Int) >= 48
   ·have g2:¬ ((l[i]).toNat:Int) <= 57:= by omega
    simp only [if_pos g1,decide_eq_false g2,Option.bind_some,Bool.false_eq_true,if_false]
    exact ev_eq (ev_const _) (by simp)
   ·simp only [if_neg g1,Option.bind_some,Bool.false_eq_true,if_false]
    exact ev_eq (ev_const _) (by simp)
def wordB (t:List UInt8):Bool:= t.all isLet && decide ((t.length:Int) >= 1 /\ (t.length:Int) <= 8)
theorem in_val (a b c:Int):spec_l1In.f a b c = some (decide (a >= b /\ a <= c)):= by
 unfold spec_l1In.f
 by_cases h:a >= b
 ·simp [h]
 ·simp [h]
theorem in_vali (a b c:Int):impl_in.f a b c = some (decide (a >= b /\ a <= c)):= in_val a b c
theorem word_loop (l:List UInt8) (hl:l.length <= 1000000) (d:Nat):∀ i,i + d = l.length -> Ev (fun k => spec_IsWord.l0 k (mk8 l) (i:Int)) ((l.drop i).all isLet && decide ((l.length:Int) >= 1 /\ (l.length:Int) <= 8)) /\ Ev (fun k => impl_IsWord.l0 k (mk8 l) (i:Int)) ((l.drop i).all isLet && decide ((l.length:Int) >= 1 /\ (l.length:Int) <= 8)):= by
 induction d with
 | zero =>
  intro i h
  have z:¬ (i:Int) < (l.length:Int):= by omega
  rw [List.drop_of_length_le (by omega)]
  refine ⟨ev_step ?_,ev_step ?_⟩
  ·simp only [spec_IsWord.l0,mk8_size,if_neg z,in_val,Option.bind_some]
   exact ev_eq (ev_const _) (by simp)
  ·simp only [impl_IsWord.l0,mk8_size,if_neg z,in_vali,Option.bind_some]
   exact ev_eq (ev_const _) (by simp)
 | succ d ih =>
  intro i h
  have hi:i < l.length:= by omega
  have z:(i:Int) < (l.length:Int):= by omega
  have z0:0 <= (i:Int):= Int.natCast_nonneg i
  obtain ⟨i1,i2⟩:= ih (i + 1) (by omega)
  rw [drop_at l i hi,List.all_cons]
  by_cases g:97 <= (l[i]).toNat /\ (l[i]).toNat <= 122
  ·have g1:((l[i]).toNat:Int) >= 97:= by omega
   have g2:((l[i]).toNat:Int) <= 122:= by omega
   have g3:¬ ((l[i]).toNat:Int) < 97:= by omega
   have g4:¬ ((l[i]).toNat:Int) > 122:= by omega
   have e:isLet l[i] = true:= by unfold isLet isIn; exact decide_eq_true g
   rw [e,Bool.true_and]
   refine ⟨ev_step ?_,ev_step ?_⟩
   ·simp only [spec_IsWord.l0,mk8_size,if_pos z,if_pos z0,mk8_bt l i hi,wrap_next i (by omega),spec_l2Letter.f,if_pos g1,decide_eq_true g2,Option.bind_some,if_true]
    exact i1
   ·simp only [impl_IsWord.l0,mk8_size,if_pos z,if_pos z0,mk8_bt l i hi,wrap_next i (by omega),if_neg g3,if_neg g4]
    exact i2
  ·have e:isLet l[i] = false:= by unfold isLet isIn; simpa using g
   rw [e,Bool.false_and,Bool.false_and]
   refine ⟨ev_step ?_,ev_step ?_⟩
   ·simp only [spec_IsWord.l0,mk8_size,if_pos z,if_pos z0,mk8_bt l i hi,spec_l2Letter.f]
    by_cases g1:((l[i]).toNat:Int) >= 97
    ·have g2:¬ ((l[i]).toNat:Int) <= 122:= by omega
     simp only [if_pos g1,decide_eq_false g2,Option.bind_some,Bool.false_eq_true,if_false]
     exact ev_const _
    ·simp only [if_neg g1,Option.bind_some,Bool.false_eq_true,if_false]
     exact ev_const _
   ·simp only [impl_IsWord.l0,mk8_size,if_pos z,if_pos z0,mk8_bt l i hi]
    by_cases g1:((l[i]).toNat:Int) < 97
    ·simp only [if_pos g1]; exact ev_const _
    ·have g2:((l[i]).toNat:Int) > 122:= by omega
     simp only [if_neg g1,if_pos g2]; exact ev_const _
theorem word_spec (t:List UInt8) (h:t.length <= 1000000):Ev (fun k => spec_IsWord.f k (mk8 t)) (wordB t):= (word_loop t h t.length 0 (by omega)).1
theorem word_impl (t:List UInt8) (h:t.length <= 1000000):Ev (fun k => impl_IsWord.f k (mk8 t)) (wordB t):= (word_loop t h t.length 0 (by omega)).2
abbrev TkS:= S43
def LexAt (l:List UInt8) (acc:List TkS) (i:Nat) (r:List TkS × Int):Prop:= Ev (fun k => spec_Lex.l0 k (mk8 l) acc (i:Int)) r /\ Ev (fun k => impl_Lex.l0 k (mk8 l) acc (i:Int)) r
section
variable (l:List UInt8) (hl:l.length <= 4000) (acc:List TkS)
include hl
theorem lex_end (i:Nat) (h:i = l.length):LexAt l acc i (acc,-1):= by
 have z:¬ (i:Int) < (l.length:Int):= by omega
 refine ⟨ev_step ?_,ev_step ?_⟩
 ·simp only [spec_Lex.l0,mk8_size,if_neg z]; exact ev_const _
 ·simp only [impl_Lex.l0,mk8_size,if_neg z]; exact ev_const _
theorem lex_space (i:Nat) (h:i < l.length) (hc:(l[i]).toNat = 32 \/ (l[i]).toNat = 10) (r:List TkS × Int) (q:LexAt l acc (i + 1) r):LexAt l acc i r:= by
 have z:(i:Int) < (l.length:Int):= by omega
 have z0:0 <= (i:Int):= Int.natCast_nonneg i
 obtain ⟨q1,q2⟩:= q
 refine ⟨ev_step ?_,ev_step ?_⟩
 ·simp only [spec_Lex.l0,mk8_size,if_pos z,if_pos z0,mk8_bt l i h]
  rcases hc with hc | hc
  ·simp only [if_pos (show ((l[i]).toNat:Int) = 32 by omega)]
   apply ev_step
   simp only [spec_Lex.j1,if_true,wrap_next i (by omega)]
   exact q1
  ·simp only [if_neg (show ¬ ((l[i]).toNat:Int) = 32 by omega),show (((l[i]).toNat:Int) == 10) = true from beq_iff_eq.mpr (by omega)]
   apply ev_step
   simp only [spec_Lex.j1,if_true,wrap_next i (by omega)]
   exact q1
 ·simp only [impl_Lex.l0,mk8_size,if_pos z,if_pos z0,mk8_bt l i h]
  rcases hc with hc | hc
  ·simp only [if_pos (show ((l[i]).toNat:Int) = 32 by omega),show (((l[i]).toNat:Int) == 32) = true from beq_iff_eq.mpr (by omega)]
   apply ev_step
   simp only [impl_Lex.j1,if_true,wrap_next i (by omega)]
   exact q2
  ·simp only [if_neg (show ¬ ((l[i]).toNat:Int) = 32 by omega),show (((l[i]).toNat:Int) == 10) = true from beq_iff_eq.mpr (by omega)]
   apply ev_step
   simp only [impl_Lex.j1,if_true,wrap_next i (by omega)]
   exact q2
theorem lex_other (i:Nat) (h:i < l.length) (h1:(l[i]).toNat ≠ 32) (h2:(l[i]).toNat ≠ 10) (r:List TkS × Int)
  (q1:Ev (fun k => spec_Lex.j1 k (mk8 l) acc (i:Int) ((l[i]).toNat:Int) false) r) (q2:Ev (fun k => impl_Lex.j1 k (mk8 l) acc (i:Int) ((l[i]).toNat:Int) false) r):LexAt l acc i r:= by
 have z:(i:Int) < (l.length:Int):= by omega
 have z0:0 <= (i:Int):= Int.natCast_nonneg i
 have c1:¬ ((l[i]).toNat:Int) = 32:= by omega
 have c2:(((l[i]).toNat:Int) == 10) = false:= beq_eq_false_iff_ne.mpr (by omega)
 refine ⟨ev_step ?_,ev_step ?_⟩
 ·simp only [spec_Lex.l0,mk8_size,if_pos z,if_pos z0,mk8_bt l i h,if_neg c1,c2]; exact q1
 ·simp only [impl_Lex.l0,mk8_size,if_pos z,if_pos z0,mk8_bt l i h,if_neg c1,c2]; exact q2
def no10 (c:UInt8):Bool:= decide (c.toNat ≠ 10)
theorem lex_skip (r:List TkS × Int) (d:Nat):∀ i,i + d = l.length -> LexAt l acc (i + ((l.drop i).takeWhile no10).length) r -> Ev (fun k => spec_Lex.l1 k (mk8 l) acc (i:Int)) r /\ Ev (fun k => impl_Lex.l1 k (mk8 l) acc (i:Int)) r:= by
 induction d with
 | zero =>
  intro i h q
  rw [List.drop_of_length_le (by omega)] at q
  obtain ⟨q1,q2⟩:= q
  have z:¬ (i:Int) < (l.length:Int):= by omega
  refine ⟨ev_step ?_,ev_step ?_⟩
  ·simp only [spec_Lex.l1,mk8_size,if_neg z]; exact q1
  ·simp only [impl_Lex.l1,mk8_size,if_neg z]; exact q2
 | succ d ih =>
  intro i h q
  have hi:i < l.length:= by omega
  have z:(i:Int) < (l.length:Int):= by omega
  have z0:0 <= (i:Int):= Int.natCast_nonneg i
  rw [drop_at l i hi,List.takeWhile_cons] at q
  by_cases c:(l[i]).toNat = 10
  ·rw [if_neg (by unfold no10; simpa using c)] at q
   obtain ⟨q1,q2⟩:= q
   have c1:((l[i]).toNat:Int) = 10:= by omega
   refine ⟨ev_step ?_,ev_step ?_⟩
   ·simp only [spec_Lex.l1,mk8_size,if_pos z,if_pos z0,mk8_bt l i hi,if_pos c1]; exact q1
   ·simp only [impl_Lex.l1,mk8_size,if_pos z,if_pos z0,mk8_bt l i hi,if_pos c1]; exact q2
  ·rw [if_pos (by unfold no10; simpa using c),List.length_cons] at q
   have c1:¬ ((l[i]).toNat:Int) = 10:= by omega
   obtain ⟨i1,i2⟩:= ih (i + 1) (by omega) (by rw [show i + 1 + ((l.drop (i + 1)).takeWhile no10).length = i + (((l.drop (i + 1)).takeWhile no10).length + 1) by omega]; exact q)
   refine ⟨ev_step ?_,ev_step ?_⟩
   ·simp only [spec_Lex.l1,mk8_size,if_pos z,if_pos z0,mk8_bt l i hi,if_neg c1,wrap_next i (by omega)]; exact i1
   ·simp only [impl_Lex.l1,mk8_size,if_pos z,if_pos z0,mk8_bt l i hi,if_neg c1,wrap_next i (by omega)]; exact i2
theorem lex_comment (i:Nat) (h:i < l.length) (hc:(l[i]).toNat = 35) (r:List TkS × Int) (q:LexAt l acc (i + ((l.drop i).takeWhile no10).length) r):LexAt l acc i r:= by
 obtain ⟨q1,q2⟩:= lex_skip l hl acc r (l.length - i) i (by omega) q
 refine lex_other l hl acc i h (by omega) (by omega) r (ev_step ?_) (ev_step ?_)
 ·simp only [spec_Lex.j1,Bool.false_eq_true,if_false,if_pos (show ((l[i]).toNat:Int) = 35 by omega)]; exact q1
 ·simp only [impl_Lex.j1,Bool.false_eq_true,if_false,if_pos (show ((l[i]).toNat:Int) = 35 by omega)]; exact q2
theorem one8 (i:Nat) (h:i < l.length):(mk8 l).extract ((i:Nat):Int).toNat ((((i:Nat):Int) + 1:Int)).toNat = mk8 [l[i]]:= by
 have:= ex8 l i 1
 rw [drop_at l i h] at this
 exact this
theorem lex_tok (i:Nat) (h:i < l.length) (hc:(l[i]).toNat ≠ 35) (kd n:Int) (t:List UInt8) (ha:acc.length <= 4000) (hi:i + t.length <= l.length) (r:List TkS × Int)
  (ht:Ev (fun k => impl_tokenAt.f k (mk8 l) (i:Int)) (kd,mk8 t,n,(i:Int),true)) (q:Ev (fun k => impl_Lex.l0 k (mk8 l) (acc ++ [⟨kd,mk8 t,n,(i:Int)⟩]) ((i + t.length:Nat):Int)) r):Ev (fun k => impl_Lex.j1 k (mk8 l) acc (i:Int) ((l[i]).toNat:Int) false) r:= by
 apply ev_step
 simp only [impl_Lex.j1,Bool.false_eq_true,if_false,if_neg (show ¬ ((l[i]).toNat:Int) = 35 by omega)]
 refine ev_bind ht ?_
 have w:wrap64 ((i:Int) + ((mk8 t).size:Int)) = ((i + t.length:Nat):Int):= by rw [mk8_size]; unfold wrap64; omega
 simp only [if_true,if_pos (show acc.length < 3518437208883 by omega),w]
 exact q
theorem lex_bad (i:Nat) (h:i < l.length) (hc:(l[i]).toNat ≠ 35) (a b:Int) (c:ByteArray) (d:Int)
  (ht:Ev (fun k => impl_tokenAt.f k (mk8 l) (i:Int)) (a,c,b,d,false)):Ev (fun k => impl_Lex.j1 k (mk8 l) acc (i:Int) ((l[i]).toNat:Int) false) (([]:List TkS),(i:Int)):= by
 apply ev_step
 simp only [impl_Lex.j1,Bool.false_eq_true,if_false,if_neg (show ¬ ((l[i]).toNat:Int) = 35 by omega)]
 refine ev_bind ht ?_
 simp only [Bool.false_eq_true,if_false]
 exact ev_const _
theorem tok_head (i:Nat) (h:i < l.length) (r:Int × ByteArray × Int × Int × Bool)
  (q:Ev (fun k => if ((l[i]).toNat:Int) = 40 then some (1,mk8 [l[i]],0,(i:Int),true) else if ((l[i]).toNat:Int) = 41 then some (2,mk8 [l[i]],0,(i:Int),true) else if ((l[i]).toNat:Int) >= 97 then impl_tokenAt.j0 k (mk8 l) (i:Int) ((l[i]).toNat:Int) (decide (((l[i]).toNat:Int) <= 122)) 0 (mk8 [l[i]]) 0 (i:Int) else impl_tokenAt.j0 k (mk8 l) (i:Int) ((l[i]).toNat:Int) false 0 (mk8 [l[i]]) 0 (i:Int)) r):Ev (fun k => impl_tokenAt.f k (mk8 l) (i:Int)) r:= by
 have z:(i:Int) < (l.length:Int):= by omega
 have z0:0 <= (i:Int):= Int.natCast_nonneg i
 have w:wrap64 ((i:Int) + 1) = (i:Int) + 1:= by unfold wrap64; omega
 unfold impl_tokenAt.f
 simp only [mk8_size,if_pos z,if_pos z0,w,if_pos (show (i:Int) <= (i:Int) + 1 by omega),if_pos (show (i:Int) + 1 <= (l.length:Int) by omega),mk8_bt l i h,one8 l hl i h]
 exact q
theorem lex_paren (i:Nat) (h:i < l.length) (kd:Nat) (hc:(l[i]).toNat = 39 + kd) (hk:kd = 1 \/ kd = 2) (ha:acc.length <= 4000) (r:List TkS × Int) (q:LexAt l (acc ++ [⟨(kd:Int),mk8 [l[i]],0,(i:Int)⟩]) (i + 1) r):LexAt l acc i r:= by
 obtain ⟨q1,q2⟩:= q
 refine lex_other l hl acc i h (by omega) (by omega) r (ev_step ?_) (lex_tok l hl acc i h (by omega) kd 0 [l[i]] ha (by simp; omega) r (tok_head l hl i h _ ?_) q2)
 ·have w:wrap64 ((i:Int) + 1) = ((i + 1:Nat):Int):= wrap_next i (by omega)
  simp only [spec_Lex.j1,Bool.false_eq_true,if_false,if_neg (show ¬ ((l[i]).toNat:Int) = 35 by omega),if_pos (show acc.length < 3518437208883 by omega),w]
  rcases hk with rfl | rfl
  ·have e:l[i] = 40:= UInt8.toNat_inj.1 (by simpa using hc)
   simp only [if_pos (show ((l[i]).toNat:Int) = 40 by omega)]
   rw [e] at q1
   exact q1
  ·have e:l[i] = 41:= UInt8.toNat_inj.1 (by simpa using hc)
   simp only [if_neg (show ¬ ((l[i]).toNat:Int) = 40 by omega),if_pos (show ((l[i]).toNat:Int) = 41 by omega)]
   rw [e] at q1
   exact q1
 ·rcases hk with rfl | rfl
  ·simp only [if_pos (show ((l[i]).toNat:Int) = 40 by omega)]; exact ev_const _
  ·simp only [if_neg (show ¬ ((l[i]).toNat:Int) = 40 by omega),if_pos (show ((l[i]).toNat:Int) = 41 by omega)]; exact ev_const _
theorem tok_word (i:Nat) (h:i < l.length) (hc:isLet l[i] = true):Ev (fun k => impl_tokenAt.f k (mk8 l) (i:Int)) (3,mk8 ((l.drop i).takeWhile isLet),0,(i:Int),wordB ((l.drop i).takeWhile isLet)):= by
 have hc':97 <= (l[i]).toNat /\ (l[i]).toNat <= 122:= by unfold isLet isIn at hc; simpa using hc
 have hle:= tw_le isLet (l.drop i)
 rw [List.length_drop] at hle
 refine tok_head l hl i h _ ?_
 simp only [if_neg (show ¬ ((l[i]).toNat:Int) = 40 by omega),if_neg (show ¬ ((l[i]).toNat:Int) = 41 by omega),if_pos (show ((l[i]).toNat:Int) >= 97 by omega),decide_eq_true (show ((l[i]).toNat:Int) <= 122 by omega)]
 apply ev_step
 simp only [impl_tokenAt.j0,if_true]
 refine ev_bind (run_impl 97 122 l (by omega) (l.length - i) i (by omega)) ?_
 have e:(mk8 l).extract ((i:Nat):Int).toNat (((i + ((l.drop i).takeWhile (isIn 97 122)).length:Nat):Nat):Int).toNat = mk8 ((l.drop i).takeWhile isLet):= by rw [ex8i,take_tw]; rfl
 have z1:(i:Int) <= ((i + ((l.drop i).takeWhile (isIn 97 122)).length:Nat):Int):= by omega
 have z2:((i + ((l.drop i).takeWhile (isIn 97 122)).length:Nat):Int) <= (l.length:Int):= by
  have:((l.drop i).takeWhile (isIn 97 122)).length <= l.length - i:= hle
  omega
 simp only [mk8_size,if_pos (show 0 <= (i:Int) by omega),if_pos z1,if_pos z2,e]
 exact ev_bind (word_impl _ (by omega)) (ev_const _)
theorem tok_num (i:Nat) (h:i < l.length) (hc:isDig l[i] = true):Ev (fun k => impl_tokenAt.f k (mk8 l) (i:Int)) (4,mk8 ((l.drop i).takeWhile isDig),(rdM ((l.drop i).takeWhile isDig)).1,(i:Int),((rdM ((l.drop i).takeWhile isDig)).2 && decide ((rdM ((l.drop i).takeWhile isDig)).1 <= 65535))):= by
 have hc':48 <= (l[i]).toNat /\ (l[i]).toNat <= 57:= by unfold isDig isIn at hc; simpa using hc
 have hle:= tw_le isDig (l.drop i)
 rw [List.length_drop] at hle
 refine tok_head l hl i h _ ?_
 simp only [if_neg (show ¬ ((l[i]).toNat:Int) = 40 by omega),if_neg (show ¬ ((l[i]).toNat:Int) = 41 by omega),if_neg (show ¬ ((l[i]).toNat:Int) >= 97 by omega)]
 apply ev_step
 simp only [impl_tokenAt.j0,Bool.false_eq_true,if_false,if_pos (show ((l[i]).toNat:Int) >= 48 by omega),decide_eq_true (show ((l[i]).toNat:Int) <= 57 by omega)]
 apply ev_step
 simp only [impl_tokenAt.j1,if_true]
 refine ev_bind (run_impl 48 57 l (by omega) (l.length - i) i (by omega)) ?_
 have e:(mk8 l).extract ((i:Nat):Int).toNat (((i + ((l.drop i).takeWhile (isIn 48 57)).length:Nat):Nat):Int).toNat = mk8 ((l.drop i).takeWhile isDig):= by rw [ex8i,take_tw]; rfl
 have z1:(i:Int) <= ((i + ((l.drop i).takeWhile (isIn 48 57)).length:Nat):Int):= by omega
 have z2:((i + ((l.drop i).takeWhile (isIn 48 57)).length:Nat):Int) <= (l.length:Int):= by
  have:((l.drop i).takeWhile (isIn 48 57)).length <= l.length - i:= hle
  omega
 simp only [mk8_size,if_pos (show 0 <= (i:Int) by omega),if_pos z1,if_pos z2,e,readdec_impl _ (show ((l.drop i).takeWhile isDig).length <= 281474976710656 by omega),Option.bind_some]
 cases hq:(rdM ((l.drop i).takeWhile isDig)).2
 ·simp only [Bool.false_eq_true,if_false,Bool.false_and]; exact ev_const _
 ·simp only [if_true,Bool.true_and]; exact ev_const _
theorem tok_no (i:Nat) (h:i < l.length) (h1:(l[i]).toNat ≠ 40) (h2:(l[i]).toNat ≠ 41) (hc:isLet l[i] = false) (hd:isDig l[i] = false):Ev (fun k => impl_tokenAt.f k (mk8 l) (i:Int)) (0,mk8 [l[i]],0,(i:Int),false):= by
 have hc':¬ (97 <= (l[i]).toNat /\ (l[i]).toNat <= 122):= by unfold isLet isIn at hc; simpa using hc
 have hd':¬ (48 <= (l[i]).toNat /\ (l[i]).toNat <= 57):= by unfold isDig isIn at hd; simpa using hd
 have fin:Ev (fun k => impl_tokenAt.j1 k (mk8 l) (i:Int) false 0 (mk8 [l[i]]) 0 (i:Int)) (0,mk8 [l[i]],0,(i:Int),false):= by
  apply ev_step
  simp only [impl_tokenAt.j1,Bool.false_eq_true,if_false]
  exact ev_const _
 have fin0:Ev (fun k => impl_tokenAt.j0 k (mk8 l) (i:Int) ((l[i]).toNat:Int) false 0 (mk8 [l[i]]) 0 (i:Int)) (0,mk8 [l[i]],0,(i:Int),false):= by
  apply ev_step
  simp only [impl_tokenAt.j0,Bool.false_eq_true,if_false]
  by_cases g:((l[i]).toNat:Int) >= 48
  ·simp only [if_pos g,decide_eq_false (show ¬ ((l[i]).toNat:Int) <= 57 by omega)]; exact fin
  ·simp only [if_neg g]; exact fin
 refine tok_head l hl i h _ ?_
 simp only [if_neg (show ¬ ((l[i]).toNat:Int) = 40 by omega),if_neg (show ¬ ((l[i]).toNat:Int) = 41 by omega)]
 by_cases g:((l[i]).toNat:Int) >= 97
 ·simp only [if_pos g,decide_eq_false (show ¬ ((l[i]).toNat:Int) <= 122 by omega)]; exact fin0
 ·simp only [if_neg g]; exact fin0
theorem lex_word (i:Nat) (h:i < l.length) (hc:isLet l[i] = true) (ha:acc.length <= 4000) (r:List TkS × Int) (q:if wordB ((l.drop i).takeWhile isLet) = true then LexAt l (acc ++ [⟨3,mk8 ((l.drop i).takeWhile isLet),0,(i:Int)⟩]) (i + ((l.drop i).takeWhile isLet).length) r else r = ([],(i:Int))):LexAt l acc i r:= by
 have hc':97 <= (l[i]).toNat /\ (l[i]).toNat <= 122:= by unfold isLet isIn at hc; simpa using hc
 have hle:= tw_le isLet (l.drop i)
 rw [List.length_drop] at hle
 have tk:= tok_word l hl i h hc
 have e:(mk8 l).extract ((i:Nat):Int).toNat (((i + ((l.drop i).takeWhile isLet).length:Nat):Nat):Int).toNat = mk8 ((l.drop i).takeWhile isLet):= by rw [ex8i,take_tw]
 have z1:(i:Int) <= ((i + ((l.drop i).takeWhile isLet).length:Nat):Int):= by omega
 have z2:((i + ((l.drop i).takeWhile isLet).length:Nat):Int) <= (l.length:Int):= by omega
 refine lex_other l hl acc i h (by omega) (by omega) r (ev_step ?_) ?_
 ·simp only [spec_Lex.j1,Bool.false_eq_true,if_false,if_neg (show ¬ ((l[i]).toNat:Int) = 35 by omega),if_neg (show ¬ ((l[i]).toNat:Int) = 40 by omega),if_neg (show ¬ ((l[i]).toNat:Int) = 41 by omega),spec_l2Letter.f,if_pos (show ((l[i]).toNat:Int) >= 97 by omega),decide_eq_true (show ((l[i]).toNat:Int) <= 122 by omega),Option.bind_some,if_true]
  refine ev_bind (run_let l (by omega) (l.length - i) i (by omega)) ?_
  simp only [mk8_size,if_pos (show 0 <= (i:Int) by omega),if_pos z1,if_pos z2,e]
  refine ev_bind (word_spec _ (by omega)) ?_
  by_cases g:wordB ((l.drop i).takeWhile isLet) = true
  ·rw [if_pos g] at q
   simp only [if_pos g,if_pos (show acc.length < 3518437208883 by omega)]
   exact q.1
  ·rw [if_neg g] at q
   subst q
   simp only [if_neg g]
   exact ev_const _
 ·by_cases g:wordB ((l.drop i).takeWhile isLet) = true
  ·rw [if_pos g] at q
   rw [g] at tk
   exact lex_tok l hl acc i h (by omega) 3 0 _ ha (by omega) r tk q.2
  ·rw [if_neg g] at q
   subst q
   rw [Bool.eq_false_iff.mpr g] at tk
   exact lex_bad l hl acc i h (by omega) _ _ _ _ tk
theorem lex_num (i:Nat) (h:i < l.length) (hc:isDig l[i] = true) (ha:acc.length <= 4000) (r:List TkS × Int) (q:if (rdM ((l.drop i).takeWhile isDig)).2 = true /\ (rdM ((l.drop i).takeWhile isDig)).1 <= 65535 then LexAt l (acc ++ [⟨4,mk8 ((l.drop i).takeWhile isDig),(rdM ((l.drop i).takeWhile isDig)).1,(i:Int)⟩]) (i + ((l.drop i).takeWhile isDig).length) r else r = ([],(i:Int))):LexAt l acc i r:= by
 have hc':48 <= (l[i]).toNat /\ (l[i]).toNat <= 57:= by unfold isDig isIn at hc; simpa using hc
 have hle:= tw_le isDig (l.drop i)
 rw [List.length_drop] at hle
 have tk:= tok_num l hl i h hc
 have e:(mk8 l).extract ((i:Nat):Int).toNat (((i + ((l.drop i).takeWhile isDig).length:Nat):Nat):Int).toNat = mk8 ((l.drop i).takeWhile isDig):= by rw [ex8i,take_tw]
 have z1:(i:Int) <= ((i + ((l.drop i).takeWhile isDig).length:Nat):Int):= by omega
 have z2:((i + ((l.drop i).takeWhile isDig).length:Nat):Int) <= (l.length:Int):= by omega
 refine lex_other l hl acc i h (by omega) (by omega) r (ev_step ?_) ?_
 ·simp only [spec_Lex.j1,Bool.false_eq_true,if_false,if_neg (show ¬ ((l[i]).toNat:Int) = 35 by omega),if_neg (show ¬ ((l[i]).toNat:Int) = 40 by omega),if_neg (show ¬ ((l[i]).toNat:Int) = 41 by omega),spec_l2Letter.f,if_neg (show ¬ ((l[i]).toNat:Int) >= 97 by omega),spec_l2Digit.f,if_pos (show ((l[i]).toNat:Int) >= 48 by omega),decide_eq_true (show ((l[i]).toNat:Int) <= 57 by omega),Option.bind_some,if_true]
  refine ev_bind (run_dig l (by omega) (l.length - i) i (by omega)) ?_
  simp only [mk8_size,if_pos (show 0 <= (i:Int) by omega),if_pos z1,if_pos z2,e]
  refine ev_bind (readdec_spec _) ?_
  by_cases g:(rdM ((l.drop i).takeWhile isDig)).2 = true
  ·by_cases g2:(rdM ((l.drop i).takeWhile isDig)).1 <= 65535
   ·rw [if_pos ⟨g,g2⟩] at q
    simp only [if_pos g,if_neg (show ¬ (rdM ((l.drop i).takeWhile isDig)).1 > 65535 by omega),if_pos (show acc.length < 3518437208883 by omega)]
    exact q.1
   ·rw [if_neg (fun z => g2 z.2)] at q
    subst q
    simp only [if_pos g,if_pos (show (rdM ((l.drop i).takeWhile isDig)).1 > 65535 by omega)]
    exact ev_const _
  ·rw [if_neg (fun z => g z.1)] at q
   subst q
   simp only [if_neg g]
   exact ev_const _
 ·by_cases g:(rdM ((l.drop i).takeWhile isDig)).2 = true /\ (rdM ((l.drop i).takeWhile isDig)).1 <= 65535
  ·rw [if_pos g] at q
   rw [g.1,decide_eq_true g.2,Bool.true_and] at tk
   exact lex_tok l hl acc i h (by omega) 4 _ _ ha (by omega) r tk q.2
  ·rw [if_neg g] at q
   subst q
   have:((rdM ((l.drop i).takeWhile isDig)).2 && decide ((rdM ((l.drop i).takeWhile isDig)).1 <= 65535)) = false:= by
    cases hq:(rdM ((l.drop i).takeWhile isDig)).2
    ·rfl
    ·rw [Bool.true_and]; exact decide_eq_false (fun z => g ⟨hq,z⟩)
   rw [this] at tk
   exact lex_bad l hl acc i h (by omega) _ _ _ _ tk
theorem lex_no (i:Nat) (h:i < l.length) (h0:(l[i]).toNat ≠ 32) (h9:(l[i]).toNat ≠ 10) (h35:(l[i]).toNat ≠ 35) (h1:(l[i]).toNat ≠ 40) (h2:(l[i]).toNat ≠ 41) (hc:isLet l[i] = false) (hd:isDig l[i] = false):LexAt l acc i ([],(i:Int)):= by
 have hc':¬ (97 <= (l[i]).toNat /\ (l[i]).toNat <= 122):= by unfold isLet isIn at hc; simpa using hc
 have hd':¬ (48 <= (l[i]).toNat /\ (l[i]).toNat <= 57):= by unfold isDig isIn at hd; simpa using hd
 refine lex_other l hl acc i h h0 h9 _ (ev_step ?_) (lex_bad l hl acc i h h35 _ _ _ _ (tok_no l hl i h h1 h2 hc hd))
 simp only [spec_Lex.j1,Bool.false_eq_true,if_false,if_neg (show ¬ ((l[i]).toNat:Int) = 35 by omega),if_neg (show ¬ ((l[i]).toNat:Int) = 40 by omega),if_neg (show ¬ ((l[i]).toNat:Int) = 41 by omega),spec_l2Letter.f,spec_l2Digit.f]
 have e1:(if ((l[i]).toNat:Int) >= 97 then some (decide (((l[i]).toNat:Int) <= 122)) else some false) = some false:= by
  split
  ·rw [decide_eq_false (by omega)]
  ·rfl
 have e2:(if ((l[i]).toNat:Int) >= 48 then some (decide (((l[i]).toNat:Int) <= 57)) else some false) = some false:= by
  split
  ·rw [decide_eq_false (by omega)]
  ·rfl
 simp only [e1,e2,Option.bind_some,Bool.false_eq_true,if_false]
 exact ev_const _
end
def TokOK (l:List UInt8) (t:TkS):Prop:= ∃ (i:Nat) (u:List UInt8),t.f3 = (i:Int) /\ t.f1 = mk8 u /\ i + u.length <= l.length /\ (l.drop i).take u.length = u /\ 1 <= u.length /\
 ((t.f0 = 1 /\ u = [40] /\ t.f2 = 0) \/ (t.f0 = 2 /\ u = [41] /\ t.f2 = 0) \/ (t.f0 = 3 /\ wordB u = true /\ t.f2 = 0) \/ (t.f0 = 4 /\ u.all isDig = true /\ rdM u = (t.f2,true) /\ t.f2 <= 65535))
def Toks (l:List UInt8):List TkS -> Nat -> Prop
 | [],_ => True
 | t :: ts,lo => TokOK l t /\ (lo:Int) <= t.f3 /\ Toks l ts (t.f3.toNat + t.f1.size)
theorem lex_all (l:List UInt8) (hl:l.length <= 4000) (d:Nat):∀ (i:Nat) (acc:List TkS),i <= l.length -> l.length - i <= d -> acc.length <= i -> ∃ r,LexAt l acc i r /\ ((∃ ts,r = (acc ++ ts,-1) /\ Toks l ts i /\ ts.length + i <= l.length) \/ (∃ j:Nat,j < l.length /\ r = ([],(j:Int)))):= by
 induction d with
 | zero =>
  intro i acc h0 h1 h2
  exact ⟨_,lex_end l hl acc i (by omega),Or.inl ⟨[],by simp,trivial,by simp; omega⟩⟩
 | succ d ih =>
  intro i acc h0 h1 h2
  by_cases hi:i < l.length
  ·by_cases c1:(l[i]).toNat = 32 \/ (l[i]).toNat = 10
   ·obtain ⟨r,q,p⟩:= ih (i + 1) acc (by omega) (by omega) (by omega)
    refine ⟨r,lex_space l hl acc i hi c1 r q,?_⟩
    rcases p with ⟨ts,p1,p2,p3⟩ | p
    ·refine Or.inl ⟨ts,p1,?_,by omega⟩
     cases ts with
     | nil => trivial
     | cons t ts => exact ⟨p2.1,by have:= p2.2.1; omega,p2.2.2⟩
    ·exact Or.inr p
   ·by_cases c2:(l[i]).toNat = 35
    ·have hle:= tw_le no10 (l.drop i)
     rw [List.length_drop] at hle
     have hpos:1 <= ((l.drop i).takeWhile no10).length:= by
      rw [drop_at l i hi,List.takeWhile_cons,if_pos (by unfold no10; simp; omega)]; simp
     obtain ⟨r,q,p⟩:= ih (i + ((l.drop i).takeWhile no10).length) acc (by omega) (by omega) (by omega)
     refine ⟨r,lex_comment l hl acc i hi c2 r q,?_⟩
     rcases p with ⟨ts,p1,p2,p3⟩ | p
     ·refine Or.inl ⟨ts,p1,?_,by omega⟩
      cases ts with
      | nil => trivial
      | cons t ts => exact ⟨p2.1,by have:= p2.2.1; omega,p2.2.2⟩
     ·exact Or.inr p
    ·
     have step:∀ (kd n:Int) (u:List UInt8),1 <= u.length -> i + u.length <= l.length -> (l.drop i).take u.length = u -> ((kd = 1 /\ u = [40] /\ n = 0) \/ (kd = 2 /\ u = [41] /\ n = 0) \/ (kd = 3 /\ wordB u = true /\ n = 0) \/ (kd = 4 /\ u.all isDig = true /\ rdM u = (n,true) /\ n <= 65535)) ->
       ∃ r,LexAt l (acc ++ [⟨kd,mk8 u,n,(i:Int)⟩]) (i + u.length) r /\ ((∃ ts,r = (acc ++ ts,-1) /\ Toks l ts i /\ ts.length + i <= l.length) \/ (∃ j:Nat,j < l.length /\ r = ([],(j:Int)))):= by
      intro kd n u hu1 hu2 hu3 hu4
      obtain ⟨r,q,p⟩:= ih (i + u.length) (acc ++ [⟨kd,mk8 u,n,(i:Int)⟩]) (by omega) (by omega) (by simp; omega)
      refine ⟨r,q,?_⟩
      rcases p with ⟨ts,p1,p2,p3⟩ | p
      ·refine Or.inl ⟨⟨kd,mk8 u,n,(i:Int)⟩ :: ts,by rw [p1]; simp,⟨⟨i,u,rfl,rfl,hu2,hu3,hu1,hu4⟩,Int.le_refl _,?_⟩,by simp; omega⟩
       simp only [Int.toNat_natCast,mk8_size]
       exact p2
      ·exact Or.inr p
     have one:(l.drop i).take 1 = [l[i]]:= by rw [drop_at l i hi]; rfl
     by_cases c3:(l[i]).toNat = 40
     ·have e:l[i] = 40:= UInt8.toNat_inj.1 (by simpa using c3)
      obtain ⟨r,q,p⟩:= step 1 0 [l[i]] (by simp) (by simp; omega) one (Or.inl ⟨rfl,by rw [e],rfl⟩)
      exact ⟨r,lex_paren l hl acc i hi 1 (by omega) (Or.inl rfl) (by omega) r q,p⟩
     ·by_cases c4:(l[i]).toNat = 41
      ·have e:l[i] = 41:= UInt8.toNat_inj.1 (by simpa using c4)
       obtain ⟨r,q,p⟩:= step 2 0 [l[i]] (by simp) (by simp; omega) one (Or.inr (Or.inl ⟨rfl,by rw [e],rfl⟩))
       exact ⟨r,lex_paren l hl acc i hi 2 (by omega) (Or.inr rfl) (by omega) r q,p⟩
      ·cases c5:isLet l[i]
       ·cases c6:isDig l[i]
        ·exact ⟨_,lex_no l hl acc i hi (fun z => c1 (Or.inl z)) (fun z => c1 (Or.inr z)) c2 c3 c4 c5 c6,Or.inr ⟨i,hi,rfl⟩⟩
        ·have hle:= tw_le isDig (l.drop i)
         rw [List.length_drop] at hle
         have hpos:1 <= ((l.drop i).takeWhile isDig).length:= by
          rw [drop_at l i hi,List.takeWhile_cons,if_pos c6]; simp
         by_cases g:(rdM ((l.drop i).takeWhile isDig)).2 = true /\ (rdM ((l.drop i).takeWhile isDig)).1 <= 65535
         ·obtain ⟨r,q,p⟩:= step 4 (rdM ((l.drop i).takeWhile isDig)).1 ((l.drop i).takeWhile isDig) hpos (by omega) (take_tw _ _) (Or.inr (Or.inr (Or.inr ⟨rfl,tw_all _ _,by rw [<- g.1],g.2⟩)))
          exact ⟨r,lex_num l hl acc i hi c6 (by omega) r (by rw [if_pos g]; exact q),p⟩
         ·exact ⟨_,lex_num l hl acc i hi c6 (by omega) _ (by rw [if_neg g]),Or.inr ⟨i,hi,rfl⟩⟩
       ·have hle:= tw_le isLet (l.drop i)
        rw [List.length_drop] at hle
        have hpos:1 <= ((l.drop i).takeWhile isLet).length:= by
         rw [drop_at l i hi,List.takeWhile_cons,if_pos c5]; simp
        by_cases g:wordB ((l.drop i).takeWhile isLet) = true
        ·obtain ⟨r,q,p⟩:= step 3 0 ((l.drop i).takeWhile isLet) hpos (by omega) (take_tw _ _) (Or.inr (Or.inr (Or.inl ⟨rfl,g,rfl⟩)))
         exact ⟨r,lex_word l hl acc i hi c5 (by omega) r (by rw [if_pos g]; exact q),p⟩
        ·exact ⟨_,lex_word l hl acc i hi c5 (by omega) _ (by rw [if_neg g]),Or.inr ⟨i,hi,rfl⟩⟩
  ·exact ⟨_,lex_end l hl acc i (by omega),Or.inl ⟨[],by simp,trivial,by simp; omega⟩⟩
theorem mk8_add (a b:List UInt8):mk8 a ++ mk8 b = mk8 (a ++ b):= ByteArray.mk_append_mk a b
abbrev TkU:= S43
theorem rdU_get (xs:List TkU) (i:Nat) (h:i < xs.length):rd_T43 xs (i:Int) = xs[i]:= by
 unfold rd_T43
 simp [List.getD_eq_getElem?_getD,List.getElem?_eq_getElem h]
def sepM (p:Option Int) (k:Int):List UInt8:= match p with
 | none => []
 | some q => if q = 1 then [] else if k = 2 then [] else [32]
def ulM:Option Int -> List TkU -> List UInt8
 | _,[] => []
 | p,t :: r => sepM p t.f0 ++ t.f1.data.toList ++ ulM (some t.f0) r
def usz:List TkU -> Nat
 | [] => 0
 | t :: r => t.f1.size + usz r
theorem usz_drop (L:List TkU) (i:Nat) (h:i < L.length):usz (L.drop i) = L[i].f1.size + usz (L.drop (i + 1)):= by
 rw [List.drop_eq_getElem_cons h]; rfl
theorem tl_len (b:ByteArray):b.data.toList.length = b.size:= by rw [Array.length_toList]; rfl
def prevM (L:List TkU):Nat -> Option Int
 | 0 => none
 | i + 1 => (L[i]?).map (·.f0)
theorem unlex_step (L:List TkU) (hL:L.length <= 1048576) (d:Nat):∀ (i:Nat) (al:List UInt8),i + d = (L.take 4000).length -> al.length + d + usz (L.drop i) <= 3000000 ->
  Ev (fun k => impl_Unlex.l0 k L (mk8 al) L (L.length:Int) (i:Int)) (mk8 (al ++ ulM (prevM L i) ((L.take 4000).drop i))):= by
 induction d with
 | zero =>
  intro i al hi hs
  have e:(L.take 4000).drop i = []:= List.drop_of_length_le (by omega)
  rw [e]
  simp only [ulM,List.append_nil]
  rw [List.length_take] at hi
  refine ev_step ?_
  by_cases c:(i:Int) < (L.length:Int)
  ·have c0:0 <= (i:Int):= Int.natCast_nonneg i
   simp only [impl_Unlex.l0,if_pos c,if_pos c0,if_pos (show (i:Int) >= 4000 by omega)]
   exact ev_const _
  ·simp only [impl_Unlex.l0,if_neg c]
   exact ev_const _
 | succ d ih =>
  intro i al hi hs
  have hT:i < (L.take 4000).length:= by omega
  rw [List.length_take] at hi
  have hiL:i < L.length:= by omega
  have c:(i:Int) < (L.length:Int):= by omega
  have c0:0 <= (i:Int):= Int.natCast_nonneg i
  have c4:¬ (i:Int) >= 4000:= by omega
  have c5:(i:Int) < 4000:= by omega
  have eT:(L.take 4000).drop i = L[i] :: (L.take 4000).drop (i + 1):= by
   rw [List.drop_eq_getElem_cons hT,List.getElem_take]
  have hsz:= usz_drop L i hiL
  have hpn:prevM L (i + 1) = some L[i].f0:= by simp [prevM,List.getElem?_eq_getElem hiL]
  have hb:L[i].f1 = mk8 L[i].f1.data.toList:= rfl
  have hl:= tl_len L[i].f1

  have plain:sepM (prevM L i) L[i].f0 = [] -> (mk8 al).size + L[i].f1.size <= 140737488355328 /\ (Ev (fun k => impl_Unlex.l0 k L (mk8 al ++ L[i].f1) L (L.length:Int) ((i + 1:Nat):Int)) (mk8 (al ++ ulM (prevM L i) ((L.take 4000).drop i)))):= by
   intro e
   refine ⟨by rw [mk8_size]; omega,?_⟩
   have:= ih (i + 1) (al ++ L[i].f1.data.toList) (by rw [List.length_take]; omega) (by rw [List.length_append]; omega)
   rw [hpn] at this
   rw [eT,ulM,e,List.nil_append,<- List.append_assoc,hb,mk8_add]
   exact this
  have spaced:sepM (prevM L i) L[i].f0 = [32] -> ((mk8 al).size + 1 <= 140737488355328 /\ (mk8 al ++ (⟨#[32]⟩:ByteArray)).size + L[i].f1.size <= 140737488355328) /\ (Ev (fun k => impl_Unlex.l0 k L ((mk8 al ++ (⟨#[32]⟩:ByteArray)) ++ L[i].f1) L (L.length:Int) ((i + 1:Nat):Int)) (mk8 (al ++ ulM (prevM L i) ((L.take 4000).drop i)))):= by
   intro e
   refine ⟨⟨by rw [mk8_size]; omega,by rw [ByteArray.size_append,mk8_size,show (⟨#[32]⟩:ByteArray).size = 1 from rfl]; omega⟩,?_⟩
   have:= ih (i + 1) (al ++ [32] ++ L[i].f1.data.toList) (by rw [List.length_take]; omega) (by simp only [List.length_append,List.length_cons,List.length_nil]; omega)
   rw [hpn] at this
   rw [eT,ulM,e,<- List.append_assoc,<- List.append_assoc,hb,show (⟨#[32]⟩:ByteArray) = mk8 [32] from rfl,mk8_add,mk8_add]
   exact this
  cases i with
  | zero =>
   obtain ⟨p0,p2⟩:= plain rfl
   have cz:¬ ((0:Nat):Int) > 0:= by decide
   refine ev_step ?_
   simp only [impl_Unlex.l0,if_pos c,if_pos c0,if_neg c4,if_neg cz,rdU_get L 0 hiL,if_pos p0,wrap_next 0 (by omega)]
   exact p2
  | succ j =>
   have hj:j < L.length:= by omega
   have cz:((j + 1:Nat):Int) > 0:= by omega
   have w1:wrap64 (((j + 1:Nat):Int) - 1) = (j:Int):= by unfold wrap64; omega
   have cj:0 <= (j:Int):= Int.natCast_nonneg j
   have cjl:(j:Int) < (L.length:Int):= by omega
   have hp:prevM L (j + 1) = some L[j].f0:= by simp [prevM,List.getElem?_eq_getElem hj]
   by_cases k1:L[j].f0 = 1
   ·obtain ⟨p0,p2⟩:= plain (by rw [hp]; simp only [sepM,if_pos k1])
    refine ev_step ?_
    simp only [impl_Unlex.l0,if_pos c,if_pos c0,if_neg c4,if_pos cz,w1,if_pos cj,if_pos cjl,rdU_get L j hj,if_pos k1,rdU_get L (j + 1) hiL,if_pos p0,wrap_next (j + 1) (by omega)]
    exact p2
   ·by_cases k2:L[j + 1].f0 = 2
    ·obtain ⟨p0,p2⟩:= plain (by rw [hp]; simp only [sepM,if_neg k1,if_pos k2])
     refine ev_step ?_
     simp only [impl_Unlex.l0,if_pos c,if_pos c0,if_neg c4,if_pos cz,w1,if_pos cj,if_pos cjl,rdU_get L j hj,if_neg k1,rdU_get L (j + 1) hiL,if_pos k2,if_pos p0,wrap_next (j + 1) (by omega)]
     exact p2
    ·obtain ⟨⟨p0,p00⟩,p2⟩:= spaced (by rw [hp]; simp only [sepM,if_neg k1,if_neg k2])
     refine ev_step ?_
     simp only [impl_Unlex.l0,if_pos c,if_pos c0,if_neg c4,if_pos cz,w1,if_pos cj,if_pos cjl,rdU_get L j hj,if_neg k1,rdU_get L (j + 1) hiL,if_neg k2,if_pos p0,if_pos p00,wrap_next (j + 1) (by omega)]
     exact p2
theorem unlex_imp (L:List TkU) (hL:L.length <= 1048576) (hs:usz L <= 1048576):Ev (fun k => impl_Unlex.f k L) (mk8 (ulM none (L.take 4000))):= by
 have:= unlex_step L hL (L.take 4000).length 0 [] (by omega) (by
  have:(L.take 4000).length <= 4000:= by rw [List.length_take]; omega
  simp only [List.length_nil,List.drop_zero]; omega)
 rw [List.nil_append,List.drop_zero,show prevM L 0 = none from rfl] at this
 have e:(L.take 4000).take (L.take 4000).length = L.take 4000:= List.take_length
 exact this
theorem pick_at (c:List Int) (hc:c.length <= 1048576) (i h:Int) (hi:Cur c i) (l:List ByteArray) (hl:0 < l.length) (hm:∀ x ∈ l,x.size <= 10):∃ x j g,spec_l1Pick.f c i h l = some (x,j,g) /\ x.size <= 10 /\ Cur c j:= by
 unfold spec_l1Pick.f
 obtain ⟨x,j,g,e,h0,h1,_,h2⟩:= below_ok c hc i h hi (l.length:Int)
 rw [e]
 have h3:= h1 (by omega)
 simp only [Option.bind_some,if_pos h0,if_pos h3]
 refine ⟨_,_,_,rfl,hm _ ?_,h2⟩
 unfold rdOf
 rw [List.getD_eq_getElem?_getD,List.getElem?_eq_getElem (by omega)]
 exact List.getElem_mem _
theorem once_ok (c:List Int) (hc:c.length <= 1048576) (i h:Int) (hi:Cur c i) (n:Int):∃ x j g,spec_l1Once.f c i h n = some (x,j,g) /\ Cur c j:= by
 unfold spec_l1Once.f
 obtain ⟨x,j,g,e,_,_,_,q⟩:= below_ok c hc i h hi n
 rw [e]
 exact ⟨_,_,_,rfl,q⟩
theorem source_loop (c:List Int) (hc:c.length <= 1048576) (n:Nat):∀ (s:ByteArray) (i h:Int),Cur c i -> s.size + 10 * n <= 200 -> ∃ t j g,Ev (fun k => spec_l2Source.l0 k s (n:Int) c i h) (t,j,g) /\ t.size <= s.size + 10 * n + 10 /\ Cur c j:= by
 induction n with
 | zero =>
  intro s i h hi hs
  obtain ⟨b,j,g,e,q⟩:= once_ok c hc i h hi 6
  cases b
  ·refine ⟨s,j,g,ev_step ?_,by omega,q⟩
   simp only [spec_l2Source.l0,if_neg (show ¬ ((0:Nat):Int) > 0 by decide),e,Option.bind_some,Bool.false_eq_true,if_false]
   exact ev_const _
  ·obtain ⟨x,j2,g2,e2,hx,q2⟩:= pick_at c hc j g q ([(⟨#[54,53,53,51,54]⟩:ByteArray),(⟨#[48,48,55]⟩:ByteArray),(⟨#[97,98,99,100,101,102,103,104,105]⟩:ByteArray),(⟨#[65]⟩:ByteArray),(⟨#[97,49]⟩:ByteArray),(⟨#[35]⟩:ByteArray),(⟨#[45,49]⟩:ByteArray),(⟨#[97,98,99,100,101,102,103,104]⟩:ByteArray),(⟨#[49,97]⟩:ByteArray)]:List ByteArray) (by decide) (by decide)
   refine ⟨s ++ x,j2,g2,ev_step ?_,by rw [ByteArray.size_append]; omega,q2⟩
   simp only [spec_l2Source.l0,if_neg (show ¬ ((0:Nat):Int) > 0 by decide),e,Option.bind_some,if_true,e2,if_pos (show s.size + x.size <= 9223372036854775807 by omega)]
   exact ev_const _
 | succ n ih =>
  intro s i h hi hs
  obtain ⟨x,j,g,e,hx,q⟩:= pick_at c hc i h hi ([(⟨#[40]⟩:ByteArray),(⟨#[41]⟩:ByteArray),(⟨#[102,117,110]⟩:ByteArray),(⟨#[120]⟩:ByteArray),(⟨#[97,98,99]⟩:ByteArray),(⟨#[49,50]⟩:ByteArray),(⟨#[48]⟩:ByteArray),(⟨#[54,53,53,51,53]⟩:ByteArray),(⟨#[32]⟩:ByteArray),(⟨#[10]⟩:ByteArray),(⟨#[35,32,110,111,116,101,10]⟩:ByteArray),(⟨#[108,101,116]⟩:ByteArray),(⟨#[32]⟩:ByteArray),(⟨#[40]⟩:ByteArray)]:List ByteArray) (by decide) (by decide)
  obtain ⟨t,j2,g2,e2,ht,q2⟩:= ih (s ++ x) j g q (by rw [ByteArray.size_append]; omega)
  rw [ByteArray.size_append] at ht
  have w:wrap64 (((n + 1:Nat):Int) - 1) = (n:Int):= by unfold wrap64; omega
  refine ⟨t,j2,g2,ev_step ?_,by omega,q2⟩
  simp only [spec_l2Source.l0,if_pos (show ((n + 1:Nat):Int) > 0 by omega),e,Option.bind_some,if_pos (show s.size + x.size <= 9223372036854775807 by omega),w]
  exact e2
theorem draw_lex (c:List Int) (hc:c.length <= 1048576):∃ s,Ev (fun k => spec_DrawLex.f k c) s /\ s.size <= 200:= by
 obtain ⟨h,e⟩:= new_ev c hc
 obtain ⟨x,j,g,e2,h0,h1,_,q⟩:= below_ok c hc 0 h (cur0 c) 12
 obtain ⟨n,rfl⟩:∃ n:Nat,x = n:= ⟨x.toNat,by omega⟩
 have:= h1 (by omega)
 have z:(⟨#[]⟩:ByteArray).size = 0:= rfl
 obtain ⟨s,j2,g2,e3,hs,q2⟩:= source_loop c hc n (⟨#[]⟩:ByteArray) j g q (by omega)
 refine ⟨s,?_,by omega⟩
 unfold spec_DrawLex.f spec_l2Source.f
 refine ev_bind e ?_
 simp only [e2,Option.bind_some]
 exact ev_bind e3 (ev_const _)
def Good (t:TkS):Prop:= 1 <= t.f1.data.toList.length /\ ((t.f0 = 1 /\ t.f1.data.toList = [40] /\ t.f2 = 0) \/ (t.f0 = 2 /\ t.f1.data.toList = [41] /\ t.f2 = 0) \/ (t.f0 = 3 /\ wordB t.f1.data.toList = true /\ t.f2 = 0) \/ (t.f0 = 4 /\ t.f1.data.toList.all isDig = true /\ rdM t.f1.data.toList = (t.f2,true) /\ t.f2 <= 65535))
def reT:Nat -> Option Int -> List TkS -> List TkS
 | _,_,[] => []
 | i,p,t :: r => ⟨t.f0,t.f1,t.f2,((i + (sepM p t.f0).length:Nat):Int)⟩ :: reT (i + (sepM p t.f0).length + t.f1.data.toList.length) (some t.f0) r
theorem reT_len (ts:List TkS):∀ i p,(reT i p ts).length = ts.length:= by
 induction ts with
 | nil => intro i p; rfl
 | cons t r ih => intro i p; simp only [reT,List.length_cons,ih]
theorem reT_get (ts:List TkS):∀ i p (k:Nat) (h:k < (reT i p ts).length) (h2:k < ts.length),(reT i p ts)[k].f0 = ts[k].f0 /\ (reT i p ts)[k].f1 = ts[k].f1 /\ (reT i p ts)[k].f2 = ts[k].f2:= by
 induction ts with
 | nil => intro i p k h h2; simp at h2
 | cons t r ih =>
  intro i p k h h2
  cases k with
  | zero => exact ⟨rfl,rfl,rfl⟩
  | succ k =>
   simp only [reT,List.getElem_cons_succ]
   exact ih _ _ k (by rw [reT_len]; simp at h2; omega) (by simp at h2; omega)
theorem tw_stop {α:Type} (p:α -> Bool) (u v:List α) (hu:u.all p = true) (hv:∀ a w,v = a :: w -> p a = false):(u ++ v).takeWhile p = u:= by
 induction u with
 | nil =>
  cases v with
  | nil => rfl
  | cons a w => rw [List.nil_append,List.takeWhile_cons,hv a w rfl]; rfl
 | cons a u ih =>
  rw [List.all_cons,Bool.and_eq_true] at hu
  rw [List.cons_append,List.takeWhile_cons,if_pos hu.1,ih hu.2]
theorem ul_head (k:Int) (hk:k ≠ 1) (r:List TkS) (hg:∀ t ∈ r,Good t) (a:UInt8) (w:List UInt8) (e:ulM (some k) r = a :: w):a = 32 \/ a = 41:= by
 cases r with
 | nil => simp [ulM] at e
 | cons t r =>
  rw [ulM] at e
  by_cases k2:t.f0 = 2
  ·have e0:sepM (some k) t.f0 = []:= by simp only [sepM,if_neg hk,if_pos k2]
   rw [e0,List.nil_append] at e
   have:= hg t List.mem_cons_self
   rcases this.2 with q | q | q | q
   ·omega
   ·rw [q.2.1] at e
    simp at e
    exact Or.inr e.1.symm
   ·omega
   ·omega
  ·have e0:sepM (some k) t.f0 = [32]:= by simp only [sepM,if_neg hk,if_neg k2]
   rw [e0] at e
   simp at e
   exact Or.inl e.1.symm
theorem sep_cases (p:Option Int) (k:Int):sepM p k = [] \/ sepM p k = [32]:= by
 unfold sepM
 split
 ·exact Or.inl rfl
 ·split
  ·exact Or.inl rfl
  ·split
   ·exact Or.inl rfl
   ·exact Or.inr rfl
theorem relex (ts:List TkS):∀ (A:List UInt8) (acc:List TkS) (p:Option Int) (l:List UInt8),l = A ++ ulM p ts -> l.length <= 4000 -> acc.length + ts.length <= 4000 -> (∀ t ∈ ts,Good t) -> LexAt l acc A.length (acc ++ reT A.length p ts,-1):= by
 induction ts with
 | nil =>
  intro A acc p l e hl ha hg
  rw [ulM,List.append_nil] at e
  rw [reT,List.append_nil]
  exact lex_end l hl acc A.length (by rw [e])
 | cons t r ih =>
  intro A acc p l e hl ha hg
  have gt:= hg t List.mem_cons_self
  have gr:∀ t ∈ r,Good t:= fun x hx => hg x (List.mem_cons_of_mem _ hx)
  have hb:t.f1 = mk8 t.f1.data.toList:= rfl
  rw [List.length_cons] at ha
  rw [ulM,<- List.append_assoc,<- List.append_assoc] at e

  have main:LexAt l acc (A ++ sepM p t.f0).length (acc ++ reT A.length p (t :: r),-1):= by
   generalize hA2:A ++ sepM p t.f0 = A2 at e
   have hi:A.length + (sepM p t.f0).length = A2.length:= by rw [<- hA2,List.length_append]
   have q:= ih (A2 ++ t.f1.data.toList) (acc ++ [⟨t.f0,t.f1,t.f2,(A2.length:Int)⟩]) (some t.f0) l e hl (by rw [List.length_append,List.length_singleton]; omega) gr
   have er:acc ++ reT A.length p (t :: r) = (acc ++ [⟨t.f0,t.f1,t.f2,(A2.length:Int)⟩]) ++ reT (A2 ++ t.f1.data.toList).length (some t.f0) r:= by
    rw [reT,hi,List.length_append,List.append_assoc]; rfl
   rw [er]
   have hall:l.length = A2.length + t.f1.data.toList.length + (ulM (some t.f0) r).length:= by rw [e]; simp only [List.length_append]
   obtain ⟨g1,g2⟩:= gt
   rw [List.append_assoc] at e
   have hlt:A2.length < l.length:= by omega
   have hdrop:l.drop A2.length = t.f1.data.toList ++ ulM (some t.f0) r:= by rw [e,List.drop_left]
   rw [List.length_append] at q
   rw [List.length_append]
   generalize t.f1.data.toList = u at *
   have hstop:∀ f:UInt8 -> Bool,f 32 = false -> f 41 = false -> t.f0 ≠ 1 -> u.all f = true -> (l.drop A2.length).takeWhile f = u:= fun f f1 f2 f3 f4 => by
    rw [hdrop]
    refine tw_stop f u _ f4 fun a w ew => ?_
    rcases ul_head t.f0 f3 r gr a w ew with rfl | rfl
    ·exact f1
    ·exact f2
   obtain ⟨a,u',rfl⟩:∃ a u',u = a :: u':= by
    cases u with
    | nil => simp at g1
    | cons a u' => exact ⟨a,u',rfl⟩
   have hget:l[A2.length] = a:= by
    have h1:(l.drop A2.length)[0]? = some a:= by rw [hdrop]; rfl
    rw [List.getElem?_drop,Nat.add_zero,List.getElem?_eq_getElem hlt] at h1
    exact Option.some.inj h1
   rcases g2 with ⟨k1,k2,k3⟩ | ⟨k1,k2,k3⟩ | ⟨k1,k2,k3⟩ | ⟨k1,k2,k3,k4⟩
   ·refine lex_paren l hl acc A2.length hlt 1 ?_ (Or.inl rfl) (by omega) _ ?_
    ·rw [hget]; injection k2 with k2; rw [k2]; rfl
    ·injection k2 with k5 k6
     subst k5; subst k6
     rw [hget]
     have ef:(⟨((1:Nat):Int),mk8 [40],0,(A2.length:Int)⟩:TkS) = ⟨t.f0,t.f1,t.f2,(A2.length:Int)⟩:= by rw [k1,k3,hb]; rfl
     rw [ef]
     exact q
   ·refine lex_paren l hl acc A2.length hlt 2 ?_ (Or.inr rfl) (by omega) _ ?_
    ·rw [hget]; injection k2 with k2; rw [k2]; rfl
    ·injection k2 with k5 k6
     subst k5; subst k6
     rw [hget]
     have ef:(⟨((2:Nat):Int),mk8 [41],0,(A2.length:Int)⟩:TkS) = ⟨t.f0,t.f1,t.f2,(A2.length:Int)⟩:= by rw [k1,k3,hb]; rfl
     rw [ef]
     exact q
   ·have ka:(a :: u').all isLet = true:= by unfold wordB at k2; rw [Bool.and_eq_true] at k2; exact k2.1
    have hw:= hstop isLet (by decide) (by decide) (by omega) ka
    have hc:isLet l[A2.length] = true:= by rw [hget]; rw [List.all_cons,Bool.and_eq_true] at ka; exact ka.1
    refine lex_word l hl acc A2.length hlt hc (by omega) _ ?_
    rw [hw,if_pos k2]
    have ef:(⟨3,mk8 (a :: u'),0,(A2.length:Int)⟩:TkS) = ⟨t.f0,t.f1,t.f2,(A2.length:Int)⟩:= by rw [k1,k3,hb]
    rw [ef]
    exact q
   ·have hw:= hstop isDig (by decide) (by decide) (by omega) k2
    have hc:isDig l[A2.length] = true:= by rw [hget]; rw [List.all_cons,Bool.and_eq_true] at k2; exact k2.1
    refine lex_num l hl acc A2.length hlt hc (by omega) _ ?_
    rw [hw,k3,if_pos ⟨rfl,k4⟩]
    have ef:(⟨4,mk8 (a :: u'),t.f2,(A2.length:Int)⟩:TkS) = ⟨t.f0,t.f1,t.f2,(A2.length:Int)⟩:= by rw [k1,hb]
    rw [ef]
    exact q
  rcases sep_cases p t.f0 with s0 | s0
  ·rw [s0,List.append_nil] at main
   exact main
  ·rw [s0] at main e
   have hlt:A.length < l.length:= by rw [e]; simp
   have hget:l[A.length] = 32:= by
    have h1:(l.drop A.length)[0]? = some 32:= by rw [e,List.append_assoc,List.append_assoc,List.drop_left]; rfl
    rw [List.getElem?_drop,Nat.add_zero,List.getElem?_eq_getElem hlt] at h1
    exact Option.some.inj h1
   refine lex_space l hl acc A.length hlt (Or.inl (by rw [hget]; rfl)) _ ?_
   rw [List.length_append] at main
   exact main
theorem toks_good (l:List UInt8) (ts:List TkS):∀ lo,Toks l ts lo -> (∀ t ∈ ts,Good t) /\ (lo <= l.length -> usz ts + lo <= l.length):= by
 induction ts with
 | nil => intro lo _; exact ⟨fun t h => by simp at h,fun h => by simp only [usz]; omega⟩
 | cons t r ih =>
  intro lo ⟨⟨i,u,a1,a2,a3,a4,a5,a6⟩,b,d⟩
  have eu:t.f1.data.toList = u:= by rw [a2]; rfl
  have es:t.f1.size = u.length:= by rw [a2,mk8_size]
  have ei:t.f3.toNat = i:= by omega
  obtain ⟨h1,h2⟩:= ih _ d
  refine ⟨fun x hx => ?_,fun h => ?_⟩
  ·rcases List.mem_cons.1 hx with rfl | hx
   ·exact ⟨by rw [eu]; exact a5,by rw [eu]; exact a6⟩
   ·exact h1 x hx
  ·have:= h2 (by omega)
   simp only [usz]; omega
theorem ul_len (ts:List TkS):∀ p,(ulM p ts).length <= usz ts + ts.length:= by
 induction ts with
 | nil => intro p; simp [ulM,usz]
 | cons t r ih =>
  intro p
  have:= ih (some t.f0)
  have h2:= tl_len t.f1
  have h3:(sepM p t.f0).length <= 1:= by rcases sep_cases p t.f0 with e | e <;> rw [e] <;> simp
  simp only [ulM,usz,List.length_append,List.length_cons]
  omega
theorem again (ts:List TkS) (h:ts.length <= 200) (m:List TkS) (hm:m.length = ts.length) (hg:∀ (k:Nat) (h1:k < m.length) (h2:k < ts.length),m[k].f0 = ts[k].f0 /\ m[k].f1 = ts[k].f1 /\ m[k].f2 = ts[k].f2) (d:Nat):∀ i:Nat,i + d = m.length -> Ev (fun k => laws_FnLexed.l1 k ts m (i:Int)) true:= by
 induction d with
 | zero =>
  intro i hi
  apply ev_step
  simp only [laws_FnLexed.l1,if_neg (show ¬ (i:Int) < (m.length:Int) by omega)]
  exact ev_const _
 | succ d ih =>
  intro i hi
  obtain ⟨g0,g1,g2⟩:= hg i (by omega) (by omega)
  apply ev_step
  simp only [laws_FnLexed.l1,if_pos (show (i:Int) < (m.length:Int) by omega),if_pos (show (i:Int) < (ts.length:Int) by omega),if_pos (show 0 <= (i:Int) by omega),rdU_get m i (by omega),rdU_get ts i (by omega),g0,g1,g2,if_true,wrap_next i (by omega)]
  exact ih (i + 1) (by omega)
theorem law_loop (l:List UInt8) (hl:l.length <= 200) (ts:List TkS) (hts:ts.length <= 200)
  (fin:Ev (fun k => (impl_Unlex.f k ts).bind fun t => (impl_Lex.f k t).bind fun b => if b.2 >= 0 then laws_FnLexed.j1 k ts b.1 true else laws_FnLexed.j1 k ts b.1 ((b.1.length:Int) != (ts.length:Int))) true) (d:Nat):∀ (i lo:Nat),i + d = ts.length -> Toks l (ts.drop i) lo -> Ev (fun k => laws_FnLexed.l0 k (mk8 l) ts (lo:Int) (i:Int)) true:= by
 induction d with
 | zero =>
  intro i lo hi _
  apply ev_step
  simp only [laws_FnLexed.l0,if_neg (show ¬ (i:Int) < (ts.length:Int) by omega)]
  exact fin
 | succ d ih =>
  intro i lo hi ht
  have hil:i < ts.length:= by omega
  rw [List.drop_eq_getElem_cons hil] at ht
  obtain ⟨⟨j,u,a1,a2,a3,a4,a5,a6⟩,b,c⟩:= ht
  have es:ts[i].f1.size = u.length:= by rw [a2,mk8_size]
  have ee:(mk8 l).extract ((j:Nat):Int).toNat (((j + u.length:Nat):Nat):Int).toNat = mk8 u:= by rw [ex8i,a4]
  have w:wrap64 ((j:Int) + (u.length:Int)) = ((j + u.length:Nat):Int):= by unfold wrap64; omega
  have nx:= ih (i + 1) (j + u.length) (by omega) (by rw [a1,es] at c; exact c)
  have hx:= rdU_get ts i hil
  apply ev_step
  simp only [laws_FnLexed.l0,if_pos (show (i:Int) < (ts.length:Int) by omega),if_pos (show 0 <= (i:Int) by omega),hx,es,a1,a2,mk8_size,w,if_neg (show ¬ (j:Int) < (lo:Int) by omega),if_neg (show ¬ ((j + u.length:Nat):Int) > (l.length:Int) by omega),if_pos (show 0 <= (j:Int) by omega),if_pos (show (j:Int) <= ((j + u.length:Nat):Int) by omega),if_pos (show ((j + u.length:Nat):Int) <= (l.length:Int) by omega),ee,if_true,wrap_next i (by omega)]
  rcases a6 with ⟨k1,k2,k3⟩ | ⟨k1,k2,k3⟩ | ⟨k1,k2,k3⟩ | ⟨k1,k2,k3,k4⟩
  ·simp only [k1,if_neg (show ¬ (1:Int) = 3 by decide),if_neg (show ¬ (1:Int) = 4 by decide)]
   exact nx
  ·simp only [k1,if_neg (show ¬ (2:Int) = 3 by decide),if_neg (show ¬ (2:Int) = 4 by decide)]
   exact nx
  ·simp only [k1,if_true,if_neg (show ¬ (3:Int) = 4 by decide)]
   refine ev_bind (ev_eq (word_impl u (by omega)) k2) ?_
   simp only [if_true]
   exact nx
  ·have hr:decM ts[i].f2 = mk8 u /\ -100000000000 <= ts[i].f2:= by
    unfold rdM at k3
    split at k3
    ·rename_i hq
     obtain ⟨q1,q2,q3⟩:= hq
     injection k3 with k5 _
     rw [<- k5]
     refine ⟨q3,?_⟩
     obtain ⟨g0,g1⟩:= dv_lt (u.take 11) 0 0 (by omega) (by decide)
     have hp:(10:Int) ^ (dvK 0 (u.take 11)) <= 10 ^ 9:= by
      have:(10:Nat) ^ (dvK 0 (u.take 11)) <= 10 ^ 9:= Nat.pow_le_pow_right (by omega) q1
      exact_mod_cast this
     unfold sg; split <;> omega
    ·injection k3 with _ k5
     cases k5
   simp only [k1,if_neg (show ¬ (4:Int) = 3 by decide),if_true,impl_dec ts[i].f2 (by omega) (by omega),Option.bind_some,hr.1]
   exact nx
theorem FnLexed:Pure:= by
 intro c ⟨_,_⟩
 refine Ev.rounds ?_
 unfold laws_FnLexed.f laws_big.f
 simp only [Option.bind_some]
 by_cases hbig:(c.length:Int) > 1048576
 ·simp only [decide_eq_true hbig,if_true]; exact ev_const _
 simp only [decide_eq_false hbig,Bool.false_eq_true,if_false]
 have hc:c.length <= 1048576:= by omega
 obtain ⟨s,es,hs⟩:= draw_lex c hc
 refine ev_bind es ?_
 have hz:¬ (s.size:Int) > 4000:= by omega
 have hsl:s.data.toList.length = s.size:= by rw [Array.length_toList]; rfl
 obtain ⟨r,⟨q1,q2⟩,p⟩:= lex_all s.data.toList (by omega) s.size 0 [] (by omega) (by omega) (by simp)
 have l1:Ev (fun k => impl_Lex.f k s) r:= by
  unfold impl_Lex.f; simp only [if_neg hz]; exact q2
 have l2:Ev (fun k => spec_Lex.f k s) r:= by
  unfold spec_Lex.f; simp only [Option.bind_some,if_neg hz]; exact q1
 refine ev_bind l1 (ev_bind l2 ?_)
 simp only [if_true]
 rcases p with ⟨ts,p1,p2,p3⟩ | ⟨j,hj,p1⟩
 ·rw [p1]
  simp only [List.nil_append,if_neg (show ¬ (-1:Int) >= 0 by decide)]
  have hn:ts.length <= 200:= by omega
  obtain ⟨hg,hu⟩:= toks_good s.data.toList ts 0 p2
  have hu:= hu (by omega)
  have hlen:= ul_len ts none
  have e1:= unlex_imp ts (by omega) (by omega)
  rw [List.take_of_length_le (by omega)] at e1
  have hre:= relex ts [] [] none (ulM none ts) rfl (by omega) (by simp; omega) hg
  rw [List.nil_append,List.length_nil] at hre
  have e2:Ev (fun k => impl_Lex.f k (mk8 (ulM none ts))) (reT 0 none ts,-1):= by
   unfold impl_Lex.f
   simp only [mk8_size,if_neg (show ¬ ((ulM none ts).length:Int) > 4000 by omega)]
   exact hre.2
  have fin:Ev (fun k => (impl_Unlex.f k ts).bind fun t => (impl_Lex.f k t).bind fun b => if b.2 >= 0 then laws_FnLexed.j1 k ts b.1 true else laws_FnLexed.j1 k ts b.1 ((b.1.length:Int) != (ts.length:Int))) true:= by
   refine ev_bind e1 (ev_bind e2 ?_)
   simp only [if_neg (show ¬ (-1:Int) >= 0 by decide),reT_len,bne_self_eq_false]
   apply ev_step
   simp only [laws_FnLexed.j1,Bool.false_eq_true,if_false]
   exact again ts hn _ (reT_len ts _ _) (fun k h1 h2 => reT_get ts 0 none k h1 h2) _ 0 (by rw [Nat.zero_add])
  have:= law_loop s.data.toList (by omega) ts hn fin ts.length 0 0 (by omega) (by rw [List.drop_zero]; exact p2)
  exact this
 ·rw [p1]
  simp only [if_pos (show ((j:Nat):Int) >= 0 by omega),List.length_nil]
  refine ev_eq (ev_const _) ?_
  rw [decide_eq_true (by omega)]
end Go.Proofs.YtdjamdnjkdllgaaDoor.Pure

