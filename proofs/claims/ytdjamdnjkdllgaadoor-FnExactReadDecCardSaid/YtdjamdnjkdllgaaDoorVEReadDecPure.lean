/- PureFnExactReadDec, of the words and walks that the law FnExactReadDec needs; made by this session's program out of printed texts. -/

import Derived.Test.YtdjamdnjkdllgaaDoorVEReadDecSay
import Derived.Laws.Strings
import Derived.Laws.BitsLemmas
set_option linter.unusedVariables false
set_option linter.unusedSimpArgs false
namespace Go.Proofs.YtdjamdnjkdllgaaDoor.Pure
open Go.RowKit Go.Proofs.YtdjamdnjkdllgaaDoor.PFnExactReadDec Go.Proofs.YtdjamdnjkdllgaaDoorW.PrintWords Go.Proofs.YtdjamdnjkdllgaaDoorW.PrintLast Go.Proofs.YtdjamdnjkdllgaaDoor.SayFnExactReadDec
theorem wrap_next (i:Nat) (h:i < 4611686018427387904):wrap64 ((i:Int) + 1) = ((i + 1:Nat):Int):= by unfold wrap64; omega
theorem ev_step {α:Type} {g:Nat -> Option α} {r:α} (h:Ev (fun k => g (k + 1)) r):Ev g r:= Ev.step (fun _ => rfl) h
theorem ev_bind {α β:Type} {g:Nat -> Option α} {f:Nat -> α -> Option β} {a:α} {r:β} (h:Ev g a) (k:Ev (fun n => f n a) r):Ev (fun n => (g n).bind (f n)) r:= Ev.bind h k
theorem ev_const {α:Type} (r:α):Ev (fun _ => some r) r:= Ev.now r
theorem ev_eq {α:Type} {g:Nat -> Option α} {r q:α} (h:Ev g r) (e:r = q):Ev g q:= e ▸ h
theorem digs (l:List UInt8):(⟨l.toArray⟩:ByteArray).size = l.length:= by simp [ByteArray.size]
theorem one_num (d:Nat) (h:d < 10):strOfNums [wrap64 (48 + (d:Int)) % 256] = (⟨[UInt8.ofNat (48 + d)].toArray⟩:ByteArray):= by
 have e:wrap64 (48 + (d:Int)) % 256 = ((48 + d:Nat):Int):= by unfold wrap64; omega
 rw [e]
 unfold strOfNums
 simp only [List.map_cons,List.map_nil]
 rfl
theorem bytes_add (a b:List UInt8):(⟨a.toArray⟩:ByteArray) ++ (⟨b.toArray⟩:ByteArray) = (⟨(a ++ b).toArray⟩:ByteArray):= ByteArray.mk_append_mk a b
theorem dec_step (u:Nat) (h:10 <= u):Lib.decDigits u = Lib.decDigits (u / 10) ++ [UInt8.ofNat (48 + u % 10)]:= by
 rw [Lib.decDigits,dif_neg (by omega)]
theorem dec_last (u:Nat) (h:u < 10):Lib.decDigits u = [UInt8.ofNat (48 + u)]:= by
 rw [Lib.decDigits,dif_pos h]
theorem dec_end (x3:ByteArray) (b:Bool) (hs:x3.size <= 1000):Ev (fun k => spec_Dec.l0 k 0 x3 b) (if b = true then (⟨#[45]⟩:ByteArray) ++ x3 else x3):= by
 apply ev_step
 have h1:1 + x3.size <= 9223372036854775807:= by omega
 cases b
 ·simp only [spec_Dec.l0,if_true,Bool.false_eq_true,if_false]
  exact ev_const _
 ·simp only [spec_Dec.l0,if_true,if_pos h1]
  exact ev_const _
theorem dec_loop (u:Nat):∀ (x:Int) (t:List UInt8) (b:Bool),u <= 9223372036854775808 -> 0 < u -> (x = (u:Int) /\ u <= 9223372036854775807 \/ x = -(u:Int)) -> t.length + u.log2 <= 500 ->
  Ev (fun k => spec_Dec.l0 k x (⟨t.toArray⟩:ByteArray) b) (if b = true then (⟨#[45]⟩:ByteArray) ++ (⟨(Lib.decDigits u ++ t).toArray⟩:ByteArray) else (⟨(Lib.decDigits u ++ t).toArray⟩:ByteArray)):= by
 induction u using Nat.strongRecOn with
 | _ u ih =>
  intro x t b hu h0 hx ht
  have hne:¬ x = 0:= by omega
  have hd:u % 10 < 10:= Nat.mod_lt _ (by omega)
  have hsz:(strOfNums [wrap64 (48 + ((u % 10:Nat):Int)) % 256]).size = 1:= rfl
  have hts:(⟨t.toArray⟩:ByteArray).size = t.length:= digs t
  have h1:(strOfNums [wrap64 (48 + ((u % 10:Nat):Int)) % 256]).size + (⟨t.toArray⟩:ByteArray).size <= 9223372036854775807:= by rw [hsz,hts]; omega
  have next:Ev (fun k => spec_Dec.l0 k (wrap64 (Int.tdiv x 10)) (strOfNums [wrap64 (48 + ((u % 10:Nat):Int)) % 256] ++ (⟨t.toArray⟩:ByteArray)) b) (if b = true then (⟨#[45]⟩:ByteArray) ++ (⟨(Lib.decDigits u ++ t).toArray⟩:ByteArray) else (⟨(Lib.decDigits u ++ t).toArray⟩:ByteArray)):= by
   rw [one_num _ hd,bytes_add]
   by_cases c:u < 10
   ·have e:wrap64 (Int.tdiv x 10) = 0:= by
     rcases hx with ⟨rfl,_⟩ | rfl
     ·rw [Int.tdiv_eq_ediv_of_nonneg (by omega)]; unfold wrap64; omega
     ·rw [Int.neg_tdiv,Int.tdiv_eq_ediv_of_nonneg (by omega)]; unfold wrap64; omega
    rw [e,dec_last u c,show u % 10 = u from Nat.mod_eq_of_lt c]
    exact dec_end _ b (by rw [digs]; simp; omega)
   ·have hl:(u / 10).log2 + 1 <= u.log2:= by
     have h2:u / 10 <= u / 2:= by omega
     have h4:2 ^ u.log2 <= u:= Nat.log2_self_le (by omega)
     have h5:u < 2 ^ (u.log2 + 1):= Nat.lt_log2_self
     have h6:(u / 10).log2 < u.log2:= (Nat.log2_lt (by omega)).2 (by rw [Nat.pow_succ] at h5; omega)
     omega
    have:= ih (u / 10) (by omega) (wrap64 (Int.tdiv x 10)) ([UInt8.ofNat (48 + u % 10)] ++ t) b (by omega) (by omega) (by
     rcases hx with ⟨rfl,hx⟩ | rfl
     ·left
      rw [Int.tdiv_eq_ediv_of_nonneg (by omega)]; unfold wrap64; omega
     ·right
      rw [Int.neg_tdiv,Int.tdiv_eq_ediv_of_nonneg (by omega)]; unfold wrap64; omega) (by simp; omega)
    rw [dec_step u (by omega),List.append_assoc]
    exact this
  apply ev_step
  by_cases hn:Int.tmod x 10 < 0
  ·have e:wrap64 (-(Int.tmod x 10)) = ((u % 10:Nat):Int):= by
    rcases hx with ⟨rfl,_⟩ | rfl
    ·rw [Int.tmod_eq_emod_of_nonneg (by omega)] at hn; omega
    ·rw [Int.neg_tmod,Int.tmod_eq_emod_of_nonneg (by omega)]; unfold wrap64; omega
   simp only [spec_Dec.l0,if_neg hne,if_pos hn,Option.bind_some,e,if_pos h1]
   exact next
  ·have e:Int.tmod x 10 = ((u % 10:Nat):Int):= by
    rcases hx with ⟨rfl,_⟩ | rfl
    ·rw [Int.tmod_eq_emod_of_nonneg (by omega)]; omega
    ·rw [Int.neg_tmod,Int.tmod_eq_emod_of_nonneg (by omega)] at hn ⊢; omega
   simp only [spec_Dec.l0,if_neg hne,if_neg hn,Option.bind_some,e,if_pos h1]
   exact next
def decM (n:Int):ByteArray:= ⟨(Lib.itoa n).toArray⟩
theorem spec_dec (n:Int) (h0:-9223372036854775808 <= n) (h1:n <= 9223372036854775807):Ev (fun k => spec_Dec.f k n) (decM n):= by
 unfold spec_Dec.f
 by_cases c:n = 0
 ·simp only [if_pos c]
  refine ev_eq (ev_const _) ?_
  subst c
  unfold decM Lib.itoa
  rw [if_neg (by omega)]
  rw [show (0:Int).toNat = 0 from rfl,dec_last 0 (by omega)]
  rfl
 ·simp only [if_neg c]
  have hl:n.natAbs.log2 <= 64:= by
   have:n.natAbs.log2 < 65:= (Nat.log2_lt (by omega)).2 (by omega)
   omega
  have:= dec_loop n.natAbs n [] (decide (n < 0)) (by omega) (by omega) (by omega) (by simp; omega)
  refine ev_eq this ?_
  unfold decM Lib.itoa
  rw [List.append_nil]
  by_cases s:n < 0
  ·rw [decide_eq_true s,if_pos rfl,if_pos s]
   rw [show (⟨#[45]⟩:ByteArray) = (⟨[45].toArray⟩:ByteArray) from rfl,bytes_add]
   rfl
  ·rw [decide_eq_false s,if_neg (by simp),if_neg s,show n.natAbs = n.toNat by omega]
def mk8 (t:List UInt8):ByteArray:= ⟨t.toArray⟩
theorem mk8_size (t:List UInt8):(mk8 t).size = t.length:= by simp [mk8,ByteArray.size]
theorem mk8_tx (b:ByteArray):mk8 b.data.toList = b:= rfl
theorem mk8_bt (s:List UInt8) (j:Nat) (h:j < s.length):bt (mk8 s) (j:Int) = ((s[j]).toNat:Int):= by
 unfold bt
 rw [dif_pos (by rw [mk8_size]; exact h)]
 rfl
def dvN:Int -> List UInt8 -> Int
 | n,[] => n
 | n,c :: r => dvN (if 48 <= (c.toNat:Int) /\ (c.toNat:Int) <= 57 then n * 10 + ((c.toNat:Int) - 48) else n) r
def dvK:Nat -> List UInt8 -> Nat
 | n,[] => n
 | n,c :: r => dvK (if 48 <= (c.toNat:Int) /\ (c.toNat:Int) <= 57 then n + 1 else n) r
def bneg:List UInt8 -> Bool
 | [] => false
 | c :: _ => (c.toNat:Int) == 45
def sg (b:Bool) (n:Int):Int:= if b = true then -n else n
theorem dvN_app (c:UInt8) (a:List UInt8):∀ n,dvN n (a ++ [c]) = dvN (dvN n a) [c]:= by
 induction a with
 | nil => intro n; rfl
 | cons x a ih => intro n; simp only [List.cons_append,dvN]; exact ih _
theorem dvK_app (c:UInt8) (a:List UInt8):∀ n,dvK n (a ++ [c]) = dvK (dvK n a) [c]:= by
 induction a with
 | nil => intro n; rfl
 | cons x a ih => intro n; simp only [List.cons_append,dvK]; exact ih _
theorem dv_lt (l:List UInt8):∀ (n:Int) (c:Nat),0 <= n -> n < 10 ^ c -> 0 <= dvN n l /\ dvN n l < 10 ^ dvK c l:= by
 induction l with
 | nil => intro n c h0 h1; exact ⟨h0,h1⟩
 | cons x l ih =>
  intro n c h0 h1
  simp only [dvN,dvK]
  split
  ·exact ih _ _ (by omega) (by rw [Int.pow_succ]; omega)
  ·exact ih _ _ h0 h1
theorem dvK_le (l:List UInt8):∀ c,dvK c l <= c + l.length:= by
 induction l with
 | nil => intro c; exact Nat.le_refl _
 | cons x l ih =>
  intro c
  simp only [dvK,List.length_cons]
  split
  ·have:= ih (c + 1); omega
  ·have:= ih c; omega
theorem dig_nat (u:Nat) (h:u < 10):((UInt8.ofNat (48 + u)).toNat:Int) = 48 + (u:Int):= by
 rw [UInt8.toNat_ofNat_of_lt' (by show 48 + u < 256; omega)]; omega
theorem dv_digits (u:Nat):dvN 0 (Lib.decDigits u) = (u:Int) /\ ∀ c,dvK c (Lib.decDigits u) = c + (Lib.decDigits u).length:= by
 induction u using Nat.strongRecOn with
 | _ u ih =>
  by_cases h:u < 10
  ·rw [dec_last u h]
   have:= dig_nat u h
   refine ⟨?_,fun c => ?_⟩
   ·simp only [dvN,this]; rw [if_pos (by omega)]; omega
   ·simp only [dvK,this,List.length_cons,List.length_nil]; rw [if_pos (by omega)]
  ·obtain ⟨i1,i2⟩:= ih (u / 10) (by omega)
   have:= dig_nat (u % 10) (by omega)
   rw [dec_step u (by omega)]
   refine ⟨?_,fun c => ?_⟩
   ·rw [dvN_app,i1]
    simp only [dvN,this]; rw [if_pos (by omega)]; omega
   ·rw [dvK_app,i2]
    simp only [dvK,this,List.length_append,List.length_cons,List.length_nil]; rw [if_pos (by omega)]; omega
theorem dec_len1 (d:Nat):∀ u:Nat,u < 10 ^ (d + 1) -> (Lib.decDigits u).length <= d + 1:= by
 induction d with
 | zero => intro u h; rw [dec_last u (by simpa using h)]; simp
 | succ d ih =>
  intro u h
  by_cases c:u < 10
  ·rw [dec_last u c]; simp
  ·rw [dec_step u (by omega),List.length_append]
   have:= ih (u / 10) (by rw [Nat.pow_succ] at h; omega)
   simp
   omega
theorem dec_head (u:Nat):∃ c r,Lib.decDigits u = c :: r /\ 48 <= c.toNat /\ c.toNat <= 57:= by
 induction u using Nat.strongRecOn with
 | _ u ih =>
  by_cases h:u < 10
  ·rw [dec_last u h]
   have:= dig_nat u h
   exact ⟨_,_,rfl,by omega,by omega⟩
  ·obtain ⟨c,r,e,h1,h2⟩:= ih (u / 10) (by omega)
   rw [dec_step u (by omega),e]
   exact ⟨c,r ++ [UInt8.ofNat (48 + u % 10)],rfl,h1,h2⟩
theorem parse_app (c:UInt8) (a:List UInt8):∀ n m,Lib.parseUint10 n a = .ok m -> Lib.parseUint10 n (a ++ [c]) = Lib.parseUint10 m [c]:= by
 induction a with
 | nil => intro n m h; simp only [Lib.parseUint10] at h; injection h with h; subst h; rfl
 | cons x a ih =>
  intro n m h
  simp only [Lib.parseUint10,List.cons_append] at h ⊢
  split at h
  ·rename_i h1
   rw [if_pos h1]
   split at h
   ·cases h
   ·rename_i h2
    rw [if_neg h2]
    split at h
    ·cases h
    ·rename_i h3
     rw [if_neg h3]
     have:= ih _ _ h
     simpa only [Lib.parseUint10] using this
  ·cases h
theorem parse_digits (u:Nat) (h:u < 18446744073709551616):Lib.parseUint10 0 (Lib.decDigits u) = .ok u:= by
 induction u using Nat.strongRecOn with
 | _ u ih =>
  by_cases h1:u < 10
  ·rw [dec_last u h1]
   have:= dig_nat u h1
   simp only [Lib.parseUint10]
   rw [if_pos (by omega),if_neg (by omega),if_neg (by omega)]
   congr 1; omega
  ·have:= dig_nat (u % 10) (by omega)
   rw [dec_step u (by omega),parse_app _ _ _ _ (ih (u / 10) (by omega) (by omega))]
   simp only [Lib.parseUint10]
   rw [if_pos (by omega),if_neg (by omega),if_neg (by omega)]
   congr 1; omega
theorem atoi_itoa (m:Int) (h0:-9223372036854775808 <= m) (h1:m <= 9223372036854775807):Lib.atoiAll (Lib.itoa m) = .ok m:= by
 unfold Lib.itoa
 by_cases s:m < 0
 ·rw [if_pos s]
  obtain ⟨c,r,e,h2,h3⟩:= dec_head m.natAbs
  have hp:= parse_digits m.natAbs (by omega)
  have hne:Lib.decDigits m.natAbs ≠ []:= by rw [e]; simp
  simp only [Lib.atoiAll]
  rw [if_pos (by decide),Lib.parseMag,if_neg hne,hp]
  simp only []
  rw [if_neg (by simp),if_neg (by simp; omega)]
  congr 1
  rw [if_pos (by decide)]; omega
 ·rw [if_neg s]
  obtain ⟨c,r,e,h2,h3⟩:= dec_head m.toNat
  have hp:= parse_digits m.toNat (by omega)
  rw [e] at hp ⊢
  simp only [Lib.atoiAll]
  rw [if_neg (by omega),Lib.parseMag,if_neg (by simp),hp]
  simp only []
  rw [if_neg (by omega),if_neg (by omega)]
  congr 1
  rw [if_neg (by omega)]; omega
theorem itoa_len (m:Int) (h0:-999999999 <= m) (h1:m <= 999999999):(Lib.itoa m).length <= 10:= by
 unfold Lib.itoa
 split
 ·have:= dec_len1 8 m.natAbs (by omega)
  simp only [List.length_cons]; omega
 ·have:= dec_len1 8 m.toNat (by omega)
  omega
theorem itoa_dv (m:Int) (h0:-999999999 <= m) (h1:m <= 999999999):sg (bneg (Lib.itoa m)) (dvN 0 (Lib.itoa m)) = m /\ dvK 0 (Lib.itoa m) <= 9:= by
 unfold Lib.itoa
 split
 ·obtain ⟨d1,d2⟩:= dv_digits m.natAbs
  have:= dec_len1 8 m.natAbs (by omega)
  have z:¬ (48 <= (((45:UInt8).toNat:Nat):Int) /\ (((45:UInt8).toNat:Nat):Int) <= 57):= by decide
  refine ⟨?_,?_⟩
  ·simp only [bneg,dvN,if_neg z,d1,sg]
   rw [if_pos (by decide)]; omega
  ·simp only [dvK,if_neg z,d2]; omega
 ·obtain ⟨d1,d2⟩:= dv_digits m.toNat
  have:= dec_len1 8 m.toNat (by omega)
  obtain ⟨c,r,e,h2,h3⟩:= dec_head m.toNat
  refine ⟨?_,?_⟩
  ·rw [d1,e]
   have hb:bneg (c :: r) = false:= beq_eq_false_iff_ne.mpr (by omega)
   simp only [sg,hb,Bool.false_eq_true,if_false]; omega
  ·rw [d2]; omega
theorem rd_false (l:List UInt8) (n c x:Int) (r:Int × Bool) (h:Ev (fun k => spec_ReadDec.j2 k (mk8 l) n c (bneg l)) r):Ev (fun k => spec_ReadDec.j1 k (mk8 l) n c x false) r:= by
 apply ev_step
 simp only [spec_ReadDec.j1,Bool.false_eq_true,if_false]
 cases l with
 | nil =>
  have z:¬ ((mk8 []).size:Int) > 0:= by rw [mk8_size]; simp
  simp only [if_neg z]
  exact h
 | cons a l =>
  have z:((mk8 (a :: l)).size:Int) > 0:= by rw [mk8_size,List.length_cons]; omega
  have z2:0 < ((mk8 (a :: l)).size:Int):= z
  have z3:bt (mk8 (a :: l)) 0 = (a.toNat:Int):= mk8_bt (a :: l) 0 (by simp)
  simp only [if_pos z,if_pos z2,z3]
  exact h
theorem rd_gen (l:List UInt8) (m:Nat) (hm:m = min l.length 11) (d:Nat):∀ (i:Nat) (n:Int) (c:Nat),i + d = m -> 0 <= n -> n < 10 ^ i -> c <= i -> ∀ r,Ev (fun k => spec_ReadDec.j1 k (mk8 l) (dvN n ((l.drop i).take d)) ((dvK c ((l.drop i).take d):Nat):Int) (m:Int) false) r -> Ev (fun k => spec_ReadDec.l0 k (mk8 l) n (c:Int) (i:Int)) r:= by
 induction d with
 | zero =>
  intro i n c hi h0 h1 hc r h
  apply ev_step
  simp only [spec_ReadDec.l0,mk8_size]
  simp only [List.take_zero,dvN,dvK] at h
  obtain rfl:i = m:= by omega
  by_cases z:(i:Int) < (l.length:Int)
  ·have z2:decide ((i:Int) < 11) = false:= by simp; omega
   simp only [if_pos z,z2]
   exact h
  ·simp only [if_neg z]
   exact h
 | succ d ih =>
  intro i n c hi h0 h1 hc r h
  have hl:i < l.length:= by omega
  have e:(l.drop i).take (d + 1) = l[i] :: (l.drop (i + 1)).take d:= by rw [List.drop_eq_getElem_cons hl,List.take_succ_cons]
  rw [e] at h
  simp only [dvN,dvK] at h
  have z:(i:Int) < (l.length:Int):= by omega
  have z2:decide ((i:Int) < 11) = true:= by simp; omega
  have z0:0 <= (i:Int):= Int.natCast_nonneg i
  have hb:bt (mk8 l) (i:Int) = ((l[i]).toNat:Int):= mk8_bt l i hl
  have hp:(10:Int) ^ i <= 10 ^ 10:= by
   have:(10:Nat) ^ i <= 10 ^ 10:= Nat.pow_le_pow_right (by omega) (by omega)
   exact_mod_cast this
  have hp1:(10:Int) ^ (i + 1) = 10 ^ i * 10:= Int.pow_succ _ _
  apply ev_step
  simp only [spec_ReadDec.l0,mk8_size,if_pos z,z2]
  apply ev_step
  simp only [spec_ReadDec.j1,if_true,mk8_size,if_pos z,if_pos z0,hb,wrap_next i (by omega),wrap_next c (by omega)]
  by_cases g:48 <= ((l[i]).toNat:Int) /\ ((l[i]).toNat:Int) <= 57
  ·rw [if_pos g,if_pos g] at h
   have g1:((l[i]).toNat:Int) >= 48:= g.1
   have w1:wrap64 ((wrap64 (n * 10)) + ((((l[i]).toNat:Int) - 48) % 256)) = n * 10 + (((l[i]).toNat:Int) - 48):= by
    unfold wrap64; omega
   simp only [if_pos g1,if_pos g.2,w1]
   exact ih (i + 1) _ (c + 1) (by omega) (by omega) (by omega) (by omega) r h
  ·rw [if_neg g,if_neg g] at h
   by_cases g1:((l[i]).toNat:Int) >= 48
   ·have g2:¬ ((l[i]).toNat:Int) <= 57:= by omega
    simp only [if_pos g1,if_neg g2]
    exact ih (i + 1) n c (by omega) h0 (by omega) (by omega) r h
   ·simp only [if_neg g1]
    exact ih (i + 1) n c (by omega) h0 (by omega) (by omega) r h
theorem tl_iff (a b:ByteArray):a.toList = b.toList ↔ a = b:= by
 rw [ByteArray.toList_eq,ByteArray.toList_eq]
 constructor
 ·intro h
  cases a; cases b
  congr 1
  exact Array.toList_inj.1 h
 ·intro h; rw [h]
theorem rd_j2 (l:List UInt8) (n:Int) (c:Nat) (b:Bool) (h0:0 <= n) (h1:n < 100000000000):Ev (fun k => spec_ReadDec.j2 k (mk8 l) n (c:Int) b) (if c <= 9 /\ l.length <= 10 /\ decM (sg b n) = mk8 l then (sg b n,true) else (0,false)):= by
 apply ev_step
 have w:wrap64 (-n) = -n:= by unfold wrap64; omega
 have d1:= spec_dec (-n) (by omega) (by omega)
 have d2:= spec_dec n (by omega) (by omega)
 by_cases hc:c <= 9
 ·have hc':¬ (c:Int) > 9:= by omega
  by_cases hl:l.length <= 10
  ·have hl':¬ (l.length:Int) > 10:= by omega
   cases b
   ·simp only [spec_ReadDec.j2,Bool.false_eq_true,if_false,if_neg hc',mk8_size,if_neg hl',sg,hc,hl,true_and]
    refine ev_bind d2 ?_
    simp only [tl_iff]
    by_cases q:decM n = mk8 l
    ·simp only [if_pos q]; exact ev_const _
    ·simp only [if_neg q]; exact ev_const _
   ·simp only [spec_ReadDec.j2,if_true,if_neg hc',mk8_size,if_neg hl',sg,hc,hl,true_and,w]
    refine ev_bind d1 ?_
    simp only [tl_iff]
    by_cases q:decM (-n) = mk8 l
    ·simp only [if_pos q]; exact ev_const _
    ·simp only [if_neg q]; exact ev_const _
  ·have hl':(l.length:Int) > 10:= by omega
   rw [if_neg (fun q => hl q.2.1)]
   cases b
   ·simp only [spec_ReadDec.j2,Bool.false_eq_true,if_false,if_neg hc',mk8_size,if_pos hl']
    exact ev_const _
   ·simp only [spec_ReadDec.j2,if_true,if_neg hc',mk8_size,if_pos hl']
    exact ev_const _
 ·have hc':(c:Int) > 9:= by omega
  rw [if_neg (fun q => hc q.1)]
  cases b
  ·simp only [spec_ReadDec.j2,Bool.false_eq_true,if_false,if_pos hc']
   exact ev_const _
  ·simp only [spec_ReadDec.j2,if_true,if_pos hc']
   exact ev_const _
def rdM (l:List UInt8):Int × Bool:= if dvK 0 (l.take 11) <= 9 /\ l.length <= 10 /\ decM (sg (bneg l) (dvN 0 (l.take 11))) = mk8 l then (sg (bneg l) (dvN 0 (l.take 11)),true) else (0,false)
theorem rdM_itoa (m:Int) (h0:-999999999 <= m) (h1:m <= 999999999):rdM (Lib.itoa m) = (m,true):= by
 have e:(Lib.itoa m).take 11 = Lib.itoa m:= List.take_of_length_le (by have:= itoa_len m h0 h1; omega)
 obtain ⟨d1,d2⟩:= itoa_dv m h0 h1
 unfold rdM
 rw [e,d1,if_pos ⟨d2,itoa_len m h0 h1,rfl⟩]
theorem rdM_no (l:List UInt8) (h:¬ ∃ m:Int,-999999999 <= m /\ m <= 999999999 /\ Lib.itoa m = l):rdM l = (0,false):= by
 unfold rdM
 rw [if_neg]
 rintro ⟨h1,h2,h3⟩
 obtain ⟨g0,g1⟩:= dv_lt (l.take 11) 0 0 (by omega) (by decide)
 have hp:(10:Int) ^ (dvK 0 (l.take 11)) <= 10 ^ 9:= by
  have:(10:Nat) ^ (dvK 0 (l.take 11)) <= 10 ^ 9:= Nat.pow_le_pow_right (by omega) h1
  exact_mod_cast this
 refine h ⟨sg (bneg l) (dvN 0 (l.take 11)),?_,?_,?_⟩
 ·unfold sg; split <;> omega
 ·unfold sg; split <;> omega
 ·have:= congrArg (fun b:ByteArray => b.data.toList) h3
  simpa [decM,mk8] using this
theorem readdec_spec (l:List UInt8):Ev (fun k => spec_ReadDec.f k (mk8 l)) (rdM l):= by
 unfold spec_ReadDec.f
 have e:(l.drop 0).take (min l.length 11) = l.take 11:= by
  rw [List.drop_zero]
  by_cases h:l.length <= 11
  ·rw [Nat.min_eq_left h,List.take_of_length_le (Nat.le_refl _),List.take_of_length_le h]
  ·rw [Nat.min_eq_right (by omega)]
 have g:= dv_lt (l.take 11) 0 0 (by omega) (by decide)
 have hk:= dvK_le (l.take 11) 0
 have hp:(10:Int) ^ (dvK 0 (l.take 11)) <= 10 ^ 11:= by
  have:(10:Nat) ^ (dvK 0 (l.take 11)) <= 10 ^ 11:= Nat.pow_le_pow_right (by omega) (by simp at hk; omega)
  exact_mod_cast this
 have:= rd_gen l (min l.length 11) rfl (min l.length 11) 0 0 0 (by omega) (by omega) (by decide) (by omega) (rdM l)
 rw [e] at this
 exact this (rd_false l _ _ _ _ (rd_j2 l _ _ _ g.1 (by omega)))
theorem impl_dec (n:Int) (h0:-9223372036854775808 <= n) (h1:n <= 9223372036854775807):impl_Dec.f n = some (decM n):= by
 unfold impl_Dec.f strconv_Itoa_34.f
 rw [if_pos h0,if_pos h1]
 rfl
theorem readdec_impl (l:List UInt8) (hl:l.length <= 281474976710656):impl_ReadDec.f (mk8 l) = some (rdM l):= by
 unfold impl_ReadDec.f
 rw [if_pos (by rw [mk8_size]; exact hl)]
 rw [show (mk8 l).data.toList = l from rfl]
 by_cases h:∃ m:Int,-999999999 <= m /\ m <= 999999999 /\ Lib.itoa m = l
 ·obtain ⟨m,h0,h1,rfl⟩:= h
  rw [rdM_itoa m h0 h1,atoi_itoa m (by omega) (by omega)]
  simp only [impl_dec m (by omega) (by omega),Option.bind_some]
  rw [if_pos (show (decM m).toList = (mk8 (Lib.itoa m)).toList from rfl)]
  unfold impl_in.f
  simp only [if_pos (show m >= -999999999 from h0),Option.bind_some,decide_eq_true h1,if_true]
 ·rw [rdM_no l h]
  cases e:Lib.atoiAll l with
  | ok v =>
   obtain ⟨b0,b1⟩:= Lib.atoiAll_bounds e
   simp only [impl_dec v b0 b1,Option.bind_some]
   by_cases c:(decM v).toList = (mk8 l).toList
   ·rw [if_pos c]
    unfold impl_in.f
    by_cases c0:v >= -999999999
    ·by_cases c1:v <= 999999999
     ·refine absurd ⟨v,c0,c1,?_⟩ h
      have:= congrArg (fun b:ByteArray => b.data.toList) ((tl_iff _ _).1 c)
      simpa [decM,mk8] using this
     ·simp [if_pos c0,c1]
    ·simp [if_neg c0]
   ·rw [if_neg c]
  | «syntax» => rfl
  | range => rfl
theorem FnExactReadDec:Pure:= by
 intro a _
 refine Ev.rounds ?_
 unfold laws_FnExactReadDec.f
 by_cases h:(a.size:Int) > 1048576
 ·simp only [if_pos h]; exact ev_const _
 ·simp only [if_neg h]
  have hs:a.data.toList.length = a.size:= by rw [Array.length_toList]; rfl
  have h1:= readdec_spec a.data.toList
  have h2:= readdec_impl a.data.toList (by omega)
  rw [mk8_tx] at h1 h2
  refine ev_bind h1 ?_
  simp only [h2,Option.bind_some,if_true,bne_self_eq_false,Bool.false_eq_true,if_false]
  exact ev_const _
end Go.Proofs.YtdjamdnjkdllgaaDoor.Pure

