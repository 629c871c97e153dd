/- PureFnExactLex, of the words and walks that the law FnExactLex needs; made by this session's program out of printed texts. -/

import Derived.Test.YtdjamdnjkdllgaaDoorVELexSay
import Derived.Laws.Strings
import Derived.Laws.BitsLemmas
set_option linter.unusedVariables false
set_option linter.unusedSectionVars false
set_option linter.unusedSimpArgs false
namespace Go.Proofs.YtdjamdnjkdllgaaDoor.Pure
open Go.RowKit Go.Proofs.YtdjamdnjkdllgaaDoor.PFnExactLex Go.Proofs.YtdjamdnjkdllgaaDoorW.PrintWords Go.Proofs.YtdjamdnjkdllgaaDoorW.PrintLast Go.Proofs.YtdjamdnjkdllgaaDoor.SayFnExactLex
theorem wrap_next (i:Nat) (h:i < 4611686018427387904):wrap64 ((i:Int) + 1) = ((i + 1:Nat):Int):= by unfold wrap64; omega
theorem ev_step {α:Type} {g:Nat -> Option α} {r:α} (h:Ev (fun k => g (k + 1)) r):Ev g r:= Ev.step (fun _ => rfl) h
theorem ev_bind {α β:Type} {g:Nat -> Option α} {f:Nat -> α -> Option β} {a:α} {r:β} (h:Ev g a) (k:Ev (fun n => f n a) r):Ev (fun n => (g n).bind (f n)) r:= Ev.bind h k
theorem ev_const {α:Type} (r:α):Ev (fun _ => some r) r:= Ev.now r
theorem ev_eq {α:Type} {g:Nat -> Option α} {r q:α} (h:Ev g r) (e:r = q):Ev g q:= e ▸ h
theorem digs (l:List UInt8):(⟨l.toArray⟩:ByteArray).size = l.length:= by simp [ByteArray.size]
theorem one_num (d:Nat) (h:d < 10):strOfNums [wrap64 (48 + (d:Int)) % 256] = (⟨[UInt8.ofNat (48 + d)].toArray⟩:ByteArray):= by
 have e:wrap64 (48 + (d:Int)) % 256 = ((48 + d:Nat):Int):= by unfold wrap64; omega
 rw [e]
 unfold strOfNums
 simp only [List.map_cons,List.map_nil]
 rfl
theorem bytes_add (a b:List UInt8):(⟨a.toArray⟩:ByteArray) ++ (⟨b.toArray⟩:ByteArray) = (⟨(a ++ b).toArray⟩:ByteArray):= ByteArray.mk_append_mk a b
theorem dec_step (u:Nat) (h:10 <= u):Lib.decDigits u = Lib.decDigits (u / 10) ++ [UInt8.ofNat (48 + u % 10)]:= by
 rw [Lib.decDigits,dif_neg (by omega)]
theorem dec_last (u:Nat) (h:u < 10):Lib.decDigits u = [UInt8.ofNat (48 + u)]:= by
 rw [Lib.decDigits,dif_pos h]
theorem dec_end (x3:ByteArray) (b:Bool) (hs:x3.size <= 1000):Ev (fun k => spec_Dec.l0 k 0 x3 b) (if b = true then (⟨#[45]⟩:ByteArray) ++ x3 else x3):= by
 apply ev_step
 have h1:1 + x3.size <= 9223372036854775807:= by omega
 cases b
 ·simp only [spec_Dec.l0,if_true,Bool.false_eq_true,if_false]
  exact ev_const _
 ·simp only [spec_Dec.l0,if_true,if_pos h1]
  exact ev_const _
theorem dec_loop (u:Nat):∀ (x:Int) (t:List UInt8) (b:Bool),u <= 9223372036854775808 -> 0 < u -> (x = (u:Int) /\ u <= 9223372036854775807 \/ x = -(u:Int)) -> t.length + u.log2 <= 500 ->
  Ev (fun k => spec_Dec.l0 k x (⟨t.toArray⟩:ByteArray) b) (if b = true then (⟨#[45]⟩:ByteArray) ++ (⟨(Lib.decDigits u ++ t).toArray⟩:ByteArray) else (⟨(Lib.decDigits u ++ t).toArray⟩:ByteArray)):= by
 induction u using Nat.strongRecOn with
 | _ u ih =>
  intro x t b hu h0 hx ht
  have hne:¬ x = 0:= by omega
  have hd:u % 10 < 10:= Nat.mod_lt _ (by omega)
  have hsz:(strOfNums [wrap64 (48 + ((u % 10:Nat):Int)) % 256]).size = 1:= rfl
  have hts:(⟨t.toArray⟩:ByteArray).size = t.length:= digs t
  have h1:(strOfNums [wrap64 (48 + ((u % 10:Nat):Int)) % 256]).size + (⟨t.toArray⟩:ByteArray).size <= 9223372036854775807:= by rw [hsz,hts]; omega
  have next:Ev (fun k => spec_Dec.l0 k (wrap64 (Int.tdiv x 10)) (strOfNums [wrap64 (48 + ((u % 10:Nat):Int)) % 256] ++ (⟨t.toArray⟩:ByteArray)) b) (if b = true then (⟨#[45]⟩:ByteArray) ++ (⟨(Lib.decDigits u ++ t).toArray⟩:ByteArray) else (⟨(Lib.decDigits u ++ t).toArray⟩:ByteArray)):= by
   rw [one_num _ hd,bytes_add]
   by_cases c:u < 10
   ·have e:wrap64 (Int.tdiv x 10) = 0:= by
     rcases hx with ⟨rfl,_⟩ | rfl
     ·rw [Int.tdiv_eq_ediv_of_nonneg (by omega)]; unfold wrap64; omega
     ·rw [Int.neg_tdiv,Int.tdiv_eq_ediv_of_nonneg (by omega)]; unfold wrap64; omega
    rw [e,dec_last u c,show u % 10 = u from Nat.mod_eq_of_lt c]
    exact dec_end _ b (by rw [digs]; simp; omega)
   ·have hl:(u / 10).log2 + 1 <= u.log2:= by
     have h2:u / 10 <= u / 2:= by omega
     have h4:2 ^ u.log2 <= u:= Nat.log2_self_le (by omega)
     have h5:u < 2 ^ (u.log2 + 1):= Nat.lt_log2_self
     have h6:(u / 10).log2 < u.log2:= (Nat.log2_lt (by omega)).2 (by rw [Nat.pow_succ] at h5; omega)
     omega
    have:= ih (u / 10) (by omega) (wrap64 (Int.tdiv x 10)) ([UInt8.ofNat (48 + u % 10)] ++ t) b (by omega) (by omega) (by
     rcases hx with ⟨rfl,hx⟩ | rfl
     ·left
      rw [Int.tdiv_eq_ediv_of_nonneg (by omega)]; unfold wrap64; omega
     ·right
      rw [Int.neg_tdiv,Int.tdiv_eq_ediv_of_nonneg (by omega)]; unfold wrap64; omega) (by simp; omega)
    rw [dec_step u (by omega),List.append_assoc]
    exact this
  apply ev_step
  by_cases hn:Int.tmod x 10 < 0
  ·have e:wrap64 (-(Int.tmod x 10)) = ((u % 10:Nat):Int):= by
    rcases hx with ⟨rfl,_⟩ | rfl
    ·rw [Int.tmod_eq_emod_of_nonneg (by omega)] at hn; omega
    ·rw [Int.neg_tmod,Int.tmod_eq_emod_of_nonneg (by omega)]; unfold wrap64; omega
   simp only [spec_Dec.l0,if_neg hne,if_pos hn,Option.bind_some,e,if_pos h1]
   exact next
  ·have e:Int.tmod x 10 = ((u % 10:Nat):Int):= by
    rcases hx with ⟨rfl,_⟩ | rfl
    ·rw [Int.tmod_eq_emod_of_nonneg (by omega)]; omega
    ·rw [Int.neg_tmod,Int.tmod_eq_emod_of_nonneg (by omega)] at hn ⊢; omega
   simp only [spec_Dec.l0,if_neg hne,if_neg hn,Option.bind_some,e,if_pos h1]
   exact next
def decM (n:Int):ByteArray:= ⟨(Lib.itoa n).toArray⟩
theorem spec_dec (n:Int) (h0:-9223372036854775808 <= n) (h1:n <= 9223372036854775807):Ev (fun k => spec_Dec.f k n) (decM n):= by
 unfold spec_Dec.f
 by_cases c:n = 0
 ·simp only [if_pos c]
  refine ev_eq (ev_const _) ?_
  subst c
  unfold decM Lib.itoa
  rw [if_neg (by omega)]
  rw [show (0:Int).toNat = 0 from rfl,dec_last 0 (by omega)]
  rfl
 ·simp only [if_neg c]
  have hl:n.natAbs.log2 <= 64:= by
   have:n.natAbs.log2 < 65:= (Nat.log2_lt (by omega)).2 (by omega)
   omega
  have:= dec_loop n.natAbs n [] (decide (n < 0)) (by omega) (by omega) (by omega) (by simp; omega)
  refine ev_eq this ?_
  unfold decM Lib.itoa
  rw [List.append_nil]
  by_cases s:n < 0
  ·rw [decide_eq_true s,if_pos rfl,if_pos s]
   rw [show (⟨#[45]⟩:ByteArray) = (⟨[45].toArray⟩:ByteArray) from rfl,bytes_add]
   rfl
  ·rw [decide_eq_false s,if_neg (by simp),if_neg s,show n.natAbs = n.toNat by omega]
def mk8 (t:List UInt8):ByteArray:= ⟨t.toArray⟩
theorem mk8_size (t:List UInt8):(mk8 t).size = t.length:= by simp [mk8,ByteArray.size]
theorem mk8_bt (s:List UInt8) (j:Nat) (h:j < s.length):bt (mk8 s) (j:Int) = ((s[j]).toNat:Int):= by
 unfold bt
 rw [dif_pos (by rw [mk8_size]; exact h)]
 rfl
def dvN:Int -> List UInt8 -> Int
 | n,[] => n
 | n,c :: r => dvN (if 48 <= (c.toNat:Int) /\ (c.toNat:Int) <= 57 then n * 10 + ((c.toNat:Int) - 48) else n) r
def dvK:Nat -> List UInt8 -> Nat
 | n,[] => n
 | n,c :: r => dvK (if 48 <= (c.toNat:Int) /\ (c.toNat:Int) <= 57 then n + 1 else n) r
def bneg:List UInt8 -> Bool
 | [] => false
 | c :: _ => (c.toNat:Int) == 45
def sg (b:Bool) (n:Int):Int:= if b = true then -n else n
theorem dvN_app (c:UInt8) (a:List UInt8):∀ n,dvN n (a ++ [c]) = dvN (dvN n a) [c]:= by
 induction a with
 | nil => intro n; rfl
 | cons x a ih => intro n; simp only [List.cons_append,dvN]; exact ih _
theorem dvK_app (c:UInt8) (a:List UInt8):∀ n,dvK n (a ++ [c]) = dvK (dvK n a) [c]:= by
 induction a with
 | nil => intro n; rfl
 | cons x a ih => intro n; simp only [List.cons_append,dvK]; exact ih _
theorem dv_lt (l:List UInt8):∀ (n:Int) (c:Nat),0 <= n -> n < 10 ^ c -> 0 <= dvN n l /\ dvN n l < 10 ^ dvK c l:= by
 induction l with
 | nil => intro n c h0 h1; exact ⟨h0,h1⟩
 | cons x l ih =>
  intro n c h0 h1
  simp only [dvN,dvK]
  split
  ·exact ih _ _ (by omega) (by rw [Int.pow_succ]; omega)
  ·exact ih _ _ h0 h1
theorem dvK_le (l:List UInt8):∀ c,dvK c l <= c + l.length:= by
 induction l with
 | nil => intro c; exact Nat.le_refl _
 | cons x l ih =>
  intro c
  simp only [dvK,List.length_cons]
  split
  ·have:= ih (c + 1); omega
  ·have:= ih c; omega
theorem dig_nat (u:Nat) (h:u < 10):((UInt8.ofNat (48 + u)).toNat:Int) = 48 + (u:Int):= by
 rw [UInt8.toNat_ofNat_of_lt' (by show 48 + u < 256; omega)]; omega
theorem dv_digits (u:Nat):dvN 0 (Lib.decDigits u) = (u:Int) /\ ∀ c,dvK c (Lib.decDigits u) = c + (Lib.decDigits u).length:= by
 induction u using Nat.strongRecOn with
 | _ u ih =>
  by_cases h:u < 10
  ·rw [dec_last u h]
   have:= dig_nat u h
   refine ⟨?_,fun c => ?_⟩
   ·simp only [dvN,this]; rw [if_pos (by omega)]; omega
   ·simp only [dvK,this,List.length_cons,List.length_nil]; rw [if_pos (by omega)]
  ·obtain ⟨i1,i2⟩:= ih (u / 10) (by omega)
   have:= dig_nat (u % 10) (by omega)
   rw [dec_step u (by omega)]
   refine ⟨?_,fun c => ?_⟩
   ·rw [dvN_app,i1]
    simp only [dvN,this]; rw [if_pos (by omega)]; omega
   ·rw [dvK_app,i2]
    simp only [dvK,this,List.length_append,List.length_cons,List.length_nil]; rw [if_pos (by omega)]; omega
theorem dec_len1 (d:Nat):∀ u:Nat,u < 10 ^ (d + 1) -> (Lib.decDigits u).length <= d + 1:= by
 induction d with
 | zero => intro u h; rw [dec_last u (by simpa using h)]; simp
 | succ d ih =>
  intro u h
  by_cases c:u < 10
  ·rw [dec_last u c]; simp
  ·rw [dec_step u (by omega),List.length_append]
   have:= ih (u / 10) (by rw [Nat.pow_succ] at h; omega)
   simp
   omega
theorem dec_head (u:Nat):∃ c r,Lib.decDigits u = c :: r /\ 48 <= c.toNat /\ c.toNat <= 57:= by
 induction u using Nat.strongRecOn with
 | _ u ih =>
  by_cases h:u < 10
  ·rw [dec_last u h]
   have:= dig_nat u h
   exact ⟨_,_,rfl,by omega,by omega⟩
  ·obtain ⟨c,r,e,h1,h2⟩:= ih (u / 10) (by omega)
   rw [dec_step u (by omega),e]
   exact ⟨c,r ++ [UInt8.ofNat (48 + u % 10)],rfl,h1,h2⟩
theorem parse_app (c:UInt8) (a:List UInt8):∀ n m,Lib.parseUint10 n a = .ok m -> Lib.parseUint10 n (a ++ [c]) = Lib.parseUint10 m [c]:= by
 induction a with
 | nil => intro n m h; simp only [Lib.parseUint10] at h; injection h with h; subst h; rfl
 | cons x a ih =>
  intro n m h
  simp only [Lib.parseUint10,List.cons_append] at h ⊢
  split at h
  ·rename_i h1
   rw [if_pos h1]
   split at h
   ·cases h
   ·rename_i h2
    rw [if_neg h2]
    split at h
    ·cases h
    ·rename_i h3
     rw [if_neg h3]
     have:= ih _ _ h
     simpa only [Lib.parseUint10] using this
  ·cases h
theorem parse_digits (u:Nat) (h:u < 18446744073709551616):Lib.parseUint10 0 (Lib.decDigits u) = .ok u:= by
 induction u using Nat.strongRecOn with
 | _ u ih =>
  by_cases h1:u < 10
  ·rw [dec_last u h1]
   have:= dig_nat u h1
   simp only [Lib.parseUint10]
   rw [if_pos (by omega),if_neg (by omega),if_neg (by omega)]
   congr 1; omega
  ·have:= dig_nat (u % 10) (by omega)
   rw [dec_step u (by omega),parse_app _ _ _ _ (ih (u / 10) (by omega) (by omega))]
   simp only [Lib.parseUint10]
   rw [if_pos (by omega),if_neg (by omega),if_neg (by omega)]
   congr 1; omega
theorem atoi_itoa (m:Int) (h0:-9223372036854775808 <= m) (h1:m <= 9223372036854775807):Lib.atoiAll (Lib.itoa m) = .ok m:= by
 unfold Lib.itoa
 by_cases s:m < 0
 ·rw [if_pos s]
  obtain ⟨c,r,e,h2,h3⟩:= dec_head m.natAbs
  have hp:= parse_digits m.natAbs (by omega)
  have hne:Lib.decDigits m.natAbs ≠ []:= by rw [e]; simp
  simp only [Lib.atoiAll]
  rw [if_pos (by decide),Lib.parseMag,if_neg hne,hp]
  simp only []
  rw [if_neg (by simp),if_neg (by simp; omega)]
  congr 1
  rw [if_pos (by decide)]; omega
 ·rw [if_neg s]
  obtain ⟨c,r,e,h2,h3⟩:= dec_head m.toNat
  have hp:= parse_digits m.toNat (by omega)
  rw [e] at hp ⊢
  simp only [Lib.atoiAll]
  rw [if_neg (by omega),Lib.parseMag,if_neg (by simp),hp]
  simp only []
  rw [if_neg (by omega),if_neg (by omega)]
  congr 1
  rw [if_neg (by omega)]; omega
theorem itoa_len (m:Int) (h0:-999999999 <= m) (h1:m <= 999999999):(Lib.itoa m).length <= 10:= by
 unfold Lib.itoa
 split
 ·have:= dec_len1 8 m.natAbs (by omega)
  simp only [List.length_cons]; omega
 ·have:= dec_len1 8 m.toNat (by omega)
  omega
theorem itoa_dv (m:Int) (h0:-999999999 <= m) (h1:m <= 999999999):sg (bneg (Lib.itoa m)) (dvN 0 (Lib.itoa m)) = m /\ dvK 0 (Lib.itoa m) <= 9:= by
 unfold Lib.itoa
 split
 ·obtain ⟨d1,d2⟩:= dv_digits m.natAbs
  have:= dec_len1 8 m.natAbs (by omega)
  have z:¬ (48 <= (((45:UInt8).toNat:Nat):Int) /\ (((45:UInt8).toNat:Nat):Int) <= 57):= by decide
  refine ⟨?_,?_⟩
  ·simp only [bneg,dvN,if_neg z,d1,sg]
   rw [if_pos (by decide)]; omega
  ·simp only [dvK,if_neg z,d2]; omega
 ·obtain ⟨d1,d2⟩:= dv_digits m.toNat
  have:= dec_len1 8 m.toNat (by omega)
  obtain ⟨c,r,e,h2,h3⟩:= dec_head m.toNat
  refine ⟨?_,?_⟩
  ·rw [d1,e]
   have hb:bneg (c :: r) = false:= beq_eq_false_iff_ne.mpr (by omega)
   simp only [sg,hb,Bool.false_eq_true,if_false]; omega
  ·rw [d2]; omega
theorem rd_false (l:List UInt8) (n c x:Int) (r:Int × Bool) (h:Ev (fun k => spec_ReadDec.j2 k (mk8 l) n c (bneg l)) r):Ev (fun k => spec_ReadDec.j1 k (mk8 l) n c x false) r:= by
 apply ev_step
 simp only [spec_ReadDec.j1,Bool.false_eq_true,if_false]
 cases l with
 | nil =>
  have z:¬ ((mk8 []).size:Int) > 0:= by rw [mk8_size]; simp
  simp only [if_neg z]
  exact h
 | cons a l =>
  have z:((mk8 (a :: l)).size:Int) > 0:= by rw [mk8_size,List.length_cons]; omega
  have z2:0 < ((mk8 (a :: l)).size:Int):= z
  have z3:bt (mk8 (a :: l)) 0 = (a.toNat:Int):= mk8_bt (a :: l) 0 (by simp)
  simp only [if_pos z,if_pos z2,z3]
  exact h
theorem rd_gen (l:List UInt8) (m:Nat) (hm:m = min l.length 11) (d:Nat):∀ (i:Nat) (n:Int) (c:Nat),i + d = m -> 0 <= n -> n < 10 ^ i -> c <= i -> ∀ r,Ev (fun k => spec_ReadDec.j1 k (mk8 l) (dvN n ((l.drop i).take d)) ((dvK c ((l.drop i).take d):Nat):Int) (m:Int) false) r -> Ev (fun k => spec_ReadDec.l0 k (mk8 l) n (c:Int) (i:Int)) r:= by
 induction d with
 | zero =>
  intro i n c hi h0 h1 hc r h
  apply ev_step
  simp only [spec_ReadDec.l0,mk8_size]
  simp only [List.take_zero,dvN,dvK] at h
  obtain rfl:i = m:= by omega
  by_cases z:(i:Int) < (l.length:Int)
  ·have z2:decide ((i:Int) < 11) = false:= by simp; omega
   simp only [if_pos z,z2]
   exact h
  ·simp only [if_neg z]
   exact h
 | succ d ih =>
  intro i n c hi h0 h1 hc r h
  have hl:i < l.length:= by omega
  have e:(l.drop i).take (d + 1) = l[i] :: (l.drop (i + 1)).take d:= by rw [List.drop_eq_getElem_cons hl,List.take_succ_cons]
  rw [e] at h
  simp only [dvN,dvK] at h
  have z:(i:Int) < (l.length:Int):= by omega
  have z2:decide ((i:Int) < 11) = true:= by simp; omega
  have z0:0 <= (i:Int):= Int.natCast_nonneg i
  have hb:bt (mk8 l) (i:Int) = ((l[i]).toNat:Int):= mk8_bt l i hl
  have hp:(10:Int) ^ i <= 10 ^ 10:= by
   have:(10:Nat) ^ i <= 10 ^ 10:= Nat.pow_le_pow_right (by omega) (by omega)
   exact_mod_cast this
  have hp1:(10:Int) ^ (i + 1) = 10 ^ i * 10:= Int.pow_succ _ _
  apply ev_step
  simp only [spec_ReadDec.l0,mk8_size,if_pos z,z2]
  apply ev_step
  simp only [spec_ReadDec.j1,if_true,mk8_size,if_pos z,if_pos z0,hb,wrap_next i (by omega),wrap_next c (by omega)]
  by_cases g:48 <= ((l[i]).toNat:Int) /\ ((l[i]).toNat:Int) <= 57
  ·rw [if_pos g,if_pos g] at h
   have g1:((l[i]).toNat:Int) >= 48:= g.1
   have w1:wrap64 ((wrap64 (n * 10)) + ((((l[i]).toNat:Int) - 48) % 256)) = n * 10 + (((l[i]).toNat:Int) - 48):= by
    unfold wrap64; omega
   simp only [if_pos g1,if_pos g.2,w1]
   exact ih (i + 1) _ (c + 1) (by omega) (by omega) (by omega) (by omega) r h
  ·rw [if_neg g,if_neg g] at h
   by_cases g1:((l[i]).toNat:Int) >= 48
   ·have g2:¬ ((l[i]).toNat:Int) <= 57:= by omega
    simp only [if_pos g1,if_neg g2]
    exact ih (i + 1) n c (by omega) h0 (by omega) (by omega) r h
   ·simp only [if_neg g1]
    exact ih (i + 1) n c (by omega) h0 (by omega) (by omega) r h
theorem tl_iff (a b:ByteArray):a.toList = b.toList ↔ a = b:= by
 rw [ByteArray.toList_eq,ByteArray.toList_eq]
 constructor
 ·intro h
  cases a; cases b
  congr 1
  exact Array.toList_inj.1 h
 ·intro h; rw [h]
theorem rd_j2 (l:List UInt8) (n:Int) (c:Nat) (b:Bool) (h0:0 <= n) (h1:n < 100000000000):Ev (fun k => spec_ReadDec.j2 k (mk8 l) n (c:Int) b) (if c <= 9 /\ l.length <= 10 /\ decM (sg b n) = mk8 l then (sg b n,true) else (0,false)):= by
 apply ev_step
 have w:wrap64 (-n) = -n:= by unfold wrap64; omega
 have d1:= spec_dec (-n) (by omega) (by omega)
 have d2:= spec_dec n (by omega) (by omega)
 by_cases hc:c <= 9
 ·have hc':¬ (c:Int) > 9:= by omega
  by_cases hl:l.length <= 10
  ·have hl':¬ (l.length:Int) > 10:= by omega
   cases b
   ·simp only [spec_ReadDec.j2,Bool.false_eq_true,if_false,if_neg hc',mk8_size,if_neg hl',sg,hc,hl,true_and]
    refine ev_bind d2 ?_
    simp only [tl_iff]
    by_cases q:decM n = mk8 l
    ·simp only [if_pos q]; exact ev_const _
    ·simp only [if_neg q]; exact ev_const _
   ·simp only [spec_ReadDec.j2,if_true,if_neg hc',mk8_size,if_neg hl',sg,hc,hl,true_and,w]
    refine ev_bind d1 ?_
    simp only [tl_iff]
    by_cases q:decM (-n) = mk8 l
    ·simp only [if_pos q]; exact ev_const _
    ·simp only [if_neg q]; exact ev_const _
  ·have hl':(l.length:Int) > 10:= by omega
   rw [if_neg (fun q => hl q.2.1)]
   cases b
   ·simp only [spec_ReadDec.j2,Bool.false_eq_true,if_false,if_neg hc',mk8_size,if_pos hl']
    exact ev_const _
   ·simp only [spec_ReadDec.j2,if_true,if_neg hc',mk8_size,if_pos hl']
    exact ev_const _
 ·have hc':(c:Int) > 9:= by omega
  rw [if_neg (fun q => hc q.1)]
  cases b
  ·simp only [spec_ReadDec.j2,Bool.false_eq_true,if_false,if_pos hc']
   exact ev_const _
  ·simp only [spec_ReadDec.j2,if_true,if_pos hc']
   exact ev_const _
def rdM (l:List UInt8):Int × Bool:= if dvK 0 (l.take 11) <= 9 /\ l.length <= 10 /\ decM (sg (bneg l) (dvN 0 (l.take 11))) = mk8 l then (sg (bneg l) (dvN 0 (l.take 11)),true) else (0,false)
theorem rdM_itoa (m:Int) (h0:-999999999 <= m) (h1:m <= 999999999):rdM (Lib.itoa m) = (m,true):= by
 have e:(Lib.itoa m).take 11 = Lib.itoa m:= List.take_of_length_le (by have:= itoa_len m h0 h1; omega)
 obtain ⟨d1,d2⟩:= itoa_dv m h0 h1
 unfold rdM
 rw [e,d1,if_pos ⟨d2,itoa_len m h0 h1,rfl⟩]
theorem rdM_no (l:List UInt8) (h:¬ ∃ m:Int,-999999999 <= m /\ m <= 999999999 /\ Lib.itoa m = l):rdM l = (0,false):= by
 unfold rdM
 rw [if_neg]
 rintro ⟨h1,h2,h3⟩
 obtain ⟨g0,g1⟩:= dv_lt (l.take 11) 0 0 (by omega) (by decide)
 have hp:(10:Int) ^ (dvK 0 (l.take 11)) <= 10 ^ 9:= by
  have:(10:Nat) ^ (dvK 0 (l.take 11)) <= 10 ^ 9:= Nat.pow_le_pow_right (by omega) h1
  exact_mod_cast this
 refine h ⟨sg (bneg l) (dvN 0 (l.take 11)),?_,?_,?_⟩
 ·unfold sg; split <;> omega
 ·unfold sg; split <;> omega
 ·have:= congrArg (fun b:ByteArray => b.data.toList) h3
  simpa [decM,mk8] using this
theorem readdec_spec (l:List UInt8):Ev (fun k => spec_ReadDec.f k (mk8 l)) (rdM l):= by
 unfold spec_ReadDec.f
 have e:(l.drop 0).take (min l.length 11) = l.take 11:= by
  rw [List.drop_zero]
  by_cases h:l.length <= 11
  ·rw [Nat.min_eq_left h,List.take_of_length_le (Nat.le_refl _),List.take_of_length_le h]
  ·rw [Nat.min_eq_right (by omega)]
 have g:= dv_lt (l.take 11) 0 0 (by omega) (by decide)
 have hk:= dvK_le (l.take 11) 0
 have hp:(10:Int) ^ (dvK 0 (l.take 11)) <= 10 ^ 11:= by
  have:(10:Nat) ^ (dvK 0 (l.take 11)) <= 10 ^ 11:= Nat.pow_le_pow_right (by omega) (by simp at hk; omega)
  exact_mod_cast this
 have:= rd_gen l (min l.length 11) rfl (min l.length 11) 0 0 0 (by omega) (by omega) (by decide) (by omega) (rdM l)
 rw [e] at this
 exact this (rd_false l _ _ _ _ (rd_j2 l _ _ _ g.1 (by omega)))
theorem impl_dec (n:Int) (h0:-9223372036854775808 <= n) (h1:n <= 9223372036854775807):impl_Dec.f n = some (decM n):= by
 unfold impl_Dec.f strconv_Itoa_34.f
 rw [if_pos h0,if_pos h1]
 rfl
theorem readdec_impl (l:List UInt8) (hl:l.length <= 281474976710656):impl_ReadDec.f (mk8 l) = some (rdM l):= by
 unfold impl_ReadDec.f
 rw [if_pos (by rw [mk8_size]; exact hl)]
 rw [show (mk8 l).data.toList = l from rfl]
 by_cases h:∃ m:Int,-999999999 <= m /\ m <= 999999999 /\ Lib.itoa m = l
 ·obtain ⟨m,h0,h1,rfl⟩:= h
  rw [rdM_itoa m h0 h1,atoi_itoa m (by omega) (by omega)]
  simp only [impl_dec m (by omega) (by omega),Option.bind_some]
  rw [if_pos (show (decM m).toList = (mk8 (Lib.itoa m)).toList from rfl)]
  unfold impl_in.f
  simp only [if_pos (show m >= -999999999 from h0),Option.bind_some,decide_eq_true h1,if_true]
 ·rw [rdM_no l h]
  cases e:Lib.atoiAll l with
  | ok v =>
   obtain ⟨b0,b1⟩:= Lib.atoiAll_bounds e
   simp only [impl_dec v b0 b1,Option.bind_some]
   by_cases c:(decM v).toList = (mk8 l).toList
   ·rw [if_pos c]
    unfold impl_in.f
    by_cases c0:v >= -999999999
    ·by_cases c1:v <= 999999999
     ·refine absurd ⟨v,c0,c1,?_⟩ h
      have:= congrArg (fun b:ByteArray => b.data.toList) ((tl_iff _ _).1 c)
      simpa [decM,mk8] using this
     ·simp [if_pos c0,c1]
    ·simp [if_neg c0]
   ·rw [if_neg c]
  | «syntax» => rfl
  | range => rfl
def isIn (lo hi:Nat) (c:UInt8):Bool:= decide (lo <= c.toNat /\ c.toNat <= hi)
def isLet (c:UInt8):Bool:= isIn 97 122 c
def isDig (c:UInt8):Bool:= isIn 48 57 c
theorem take_tw {α:Type} (p:α -> Bool) (u:List α):u.take (u.takeWhile p).length = u.takeWhile p:= by
 induction u with
 | nil => rfl
 | cons a u ih =>
  rw [List.takeWhile_cons]
  split
  ·rw [List.length_cons,List.take_succ_cons,ih]
  ·rfl
theorem tw_le {α:Type} (p:α -> Bool) (u:List α):(u.takeWhile p).length <= u.length:= by
 induction u with
 | nil => simp
 | cons a u ih =>
  rw [List.takeWhile_cons]
  split
  ·simp only [List.length_cons]; omega
  ·simp
theorem tw_all {α:Type} (p:α -> Bool) (u:List α):(u.takeWhile p).all p = true:= by
 induction u with
 | nil => rfl
 | cons a u ih =>
  rw [List.takeWhile_cons]
  split
  ·rename_i h; rw [List.all_cons,h,ih]; rfl
  ·rfl
theorem ex8 (l:List UInt8) (i n:Nat):(mk8 l).extract i (i + n) = mk8 ((l.drop i).take n):= by
 apply ByteArray.ext
 apply Array.toList_inj.1
 rw [ByteArray.data_extract]
 simp only [mk8,Array.toList_extract,List.extract_eq_take_drop]
 congr 1; omega
theorem ex8i (l:List UInt8) (i n:Nat):(mk8 l).extract ((i:Nat):Int).toNat (((i + n:Nat):Nat):Int).toNat = mk8 ((l.drop i).take n):= ex8 l i n
theorem drop_at (l:List UInt8) (i:Nat) (h:i < l.length):l.drop i = l[i] :: l.drop (i + 1):= List.drop_eq_getElem_cons h
theorem run_impl (lo hi:Nat) (l:List UInt8) (hl:l.length <= 1000000) (d:Nat):∀ i,i + d = l.length -> Ev (fun k => impl_runOf.l0 k (mk8 l) (i:Int) (lo:Int) (hi:Int)) ((i + ((l.drop i).takeWhile (isIn lo hi)).length:Nat):Int):= by
 induction d with
 | zero =>
  intro i h
  apply ev_step
  have z:¬ (i:Int) < (l.length:Int):= by omega
  simp only [impl_runOf.l0,mk8_size,if_neg z]
  refine ev_eq (ev_const _) ?_
  rw [List.drop_of_length_le (by omega)]
  simp
 | succ d ih =>
  intro i h
  have hl:i < l.length:= by omega
  have z:(i:Int) < (l.length:Int):= by omega
  have z0:0 <= (i:Int):= Int.natCast_nonneg i
  apply ev_step
  simp only [impl_runOf.l0,mk8_size,if_pos z,if_pos z0,mk8_bt l i hl,wrap_next i (by omega)]
  rw [drop_at l i hl,List.takeWhile_cons]
  by_cases g:lo <= (l[i]).toNat /\ (l[i]).toNat <= hi
  ·have g1:((l[i]).toNat:Int) >= (lo:Int):= by omega
   have g2:((l[i]).toNat:Int) <= (hi:Int):= by omega
   rw [if_pos (by unfold isIn; exact decide_eq_true g)]
   simp only [if_pos g1,if_pos g2]
   refine ev_eq (ih (i + 1) (by omega)) ?_
   rw [List.length_cons]; omega
  ·rw [if_neg (by unfold isIn; simpa using g)]
   by_cases g1:((l[i]).toNat:Int) >= (lo:Int)
   ·have g2:¬ ((l[i]).toNat:Int) <= (hi:Int):= by omega
    simp only [if_pos g1,if_neg g2]
    exact ev_eq (ev_const _) (by simp)
   ·simp only [if_neg g1]
    exact ev_eq (ev_const _) (by simp)
theorem run_let (l:List UInt8) (hl:l.length <= 1000000) (d:Nat):∀ i,i + d = l.length -> Ev (fun k => spec_l2Run.l0 k (mk8 l) (i:Int) true) ((i + ((l.drop i).takeWhile isLet).length:Nat):Int):= by
 induction d with
 | zero =>
  intro i h
  apply ev_step
  have z:¬ (i:Int) < (l.length:Int):= by omega
  simp only [spec_l2Run.l0,mk8_size,if_neg z]
  refine ev_eq (ev_const _) ?_
  rw [List.drop_of_length_le (by omega)]
  simp
 | succ d ih =>
  intro i h
  have hl:i < l.length:= by omega
  have z:(i:Int) < (l.length:Int):= by omega
  have z0:0 <= (i:Int):= Int.natCast_nonneg i
  apply ev_step
  simp only [spec_l2Run.l0,mk8_size,if_pos z,if_pos z0,if_true,mk8_bt l i hl,wrap_next i (by omega),spec_l2Letter.f]
  rw [drop_at l i hl,List.takeWhile_cons]
  by_cases g:97 <= (l[i]).toNat /\ (l[i]).toNat <= 122
  ·have g1:((l[i]).toNat:Int) >= 97:= by omega
   have g2:((l[i]).toNat:Int) <= 122:= by omega
   rw [if_pos (show isLet l[i] = true by unfold isLet isIn; exact decide_eq_true g)]
   simp only [if_pos g1,decide_eq_true g2,Option.bind_some,if_true]
   refine ev_eq (ih (i + 1) (by omega)) ?_
   rw [List.length_cons]; omega
  ·rw [if_neg (show ¬ isLet l[i] = true by unfold isLet isIn; simpa using g)]
   by_cases g1:((l[i]).toNat:Int) >= 97
   ·have g2:¬ ((l[i]).toNat:Int) <= 122:= by omega
    simp only [if_pos g1,decide_eq_false g2,Option.bind_some,Bool.false_eq_true,if_false]
    exact ev_eq (ev_const _) (by simp)
   ·simp only [if_neg g1,Option.bind_some,Bool.false_eq_true,if_false]
    exact ev_eq (ev_const _) (by simp)
theorem run_dig (l:List UInt8) (hl:l.length <= 1000000) (d:Nat):∀ i,i + d = l.length -> Ev (fun k => spec_l2Run.l0 k (mk8 l) (i:Int) false) ((i + ((l.drop i).takeWhile isDig).length:Nat):Int):= by
 induction d with
 | zero =>
  intro i h
  apply ev_step
  have z:¬ (i:Int) < (l.length:Int):= by omega
  simp only [spec_l2Run.l0,mk8_size,if_neg z]
  refine ev_eq (ev_const _) ?_
  rw [List.drop_of_length_le (by omega)]
  simp
 | succ d ih =>
  intro i h
  have hl:i < l.length:= by omega
  have z:(i:Int) < (l.length:Int):= by omega
  have z0:0 <= (i:Int):= Int.natCast_nonneg i
  apply ev_step
  simp only [spec_l2Run.l0,mk8_size,if_pos z,if_pos z0,Bool.false_eq_true,if_false,mk8_bt l i hl,wrap_next i (by omega),spec_l2Digit.f]
  rw [drop_at l i hl,List.takeWhile_cons]
  by_cases g:48 <= (l[i]).toNat /\ (l[i]).toNat <= 57
  ·have g1:((l[i]).toNat:Int) >= 48:= by omega
   have g2:((l[i]).toNat:Int) <= 57:= by omega
   rw [if_pos (show isDig l[i] = true by unfold isDig isIn; exact decide_eq_true g)]
   simp only [if_pos g1,decide_eq_true g2,Option.bind_some,if_true]
   refine ev_eq (ih (i + 1) (by omega)) ?_
   rw [List.length_cons]; omega
  ·rw [if_neg (show ¬ isDig l[i] = true by unfold isDig isIn; simpa using g)]
   by_cases g1:((l[i]).toNat:Int) >= 48
   ·have g2:¬ ((l[i]).toNat:Int) <= 57:= by omega
    simp only [if_pos g1,decide_eq_false g2,Option.bind_some,Bool.false_eq_true,if_false]
    exact ev_eq (ev_const _) (by simp)
   ·simp only [if_neg g1,Option.bind_some,Bool.false_eq_true,if_false]
    exact ev_eq (ev_const _) (by simp)
def wordB (t:List UInt8):Bool:= t.all isLet && decide ((t.length:Int) >= 1 /\ (t.length:Int) <= 8)
theorem in_val (a b c:Int):spec_l1In.f a b c = some (decide (a >= b /\ a <= c)):= by
 unfold spec_l1In.f
 by_cases h:a >= b
 ·simp [h]
 ·simp [h]
theorem in_vali (a b c:Int):impl_in.f a b c = some (decide (a >= b /\ a <= c)):= in_val a b c
theorem word_loop (l:List UInt8) (hl:l.length <= 1000000) (d:Nat):∀ i,i + d = l.length -> Ev (fun k => spec_IsWord.l0 k (mk8 l) (i:Int)) ((l.drop i).all isLet && decide ((l.length:Int) >= 1 /\ (l.length:Int) <= 8)) /\ Ev (fun k => impl_IsWord.l0 k (mk8 l) (i:Int)) ((l.drop i).all isLet && decide ((l.length:Int) >= 1 /\ (l.length:Int) <= 8)):= by
 induction d with
 | zero =>
  intro i h
  have z:¬ (i:Int) < (l.length:Int):= by omega
  rw [List.drop_of_length_le (by omega)]
  refine ⟨ev_step ?_,ev_step ?_⟩
  ·simp only [spec_IsWord.l0,mk8_size,if_neg z,in_val,Option.bind_some]
   exact ev_eq (ev_const _) (by simp)
  ·simp only [impl_IsWord.l0,mk8_size,if_neg z,in_vali,Option.bind_some]
   exact ev_eq (ev_const _) (by simp)
 | succ d ih =>
  intro i h
  have hi:i < l.length:= by omega
  have z:(i:Int) < (l.length:Int):= by omega
  have z0:0 <= (i:Int):= Int.natCast_nonneg i
  obtain ⟨i1,i2⟩:= ih (i + 1) (by omega)
  rw [drop_at l i hi,List.all_cons]
  by_cases g:97 <= (l[i]).toNat /\ (l[i]).toNat <= 122
  ·have g1:((l[i]).toNat:Int) >= 97:= by omega
   have g2:((l[i]).toNat:Int) <= 122:= by omega
   have g3:¬ ((l[i]).toNat:Int) < 97:= by omega
   have g4:¬ ((l[i]).toNat:Int) > 122:= by omega
   have e:isLet l[i] = true:= by unfold isLet isIn; exact decide_eq_true g
   rw [e,Bool.true_and]
   refine ⟨ev_step ?_,ev_step ?_⟩
   ·simp only [spec_IsWord.l0,mk8_size,if_pos z,if_pos z0,mk8_bt l i hi,wrap_next i (by omega),spec_l2Letter.f,if_pos g1,decide_eq_true g2,Option.bind_some,if_true]
    exact i1
   ·simp only [impl_IsWord.l0,mk8_size,if_pos z,if_pos z0,mk8_bt l i hi,wrap_next i (by omega),if_neg g3,if_neg g4]
    exact i2
  ·have e:isLet l[i] = false:= by unfold isLet isIn; simpa using g
   rw [e,Bool.false_and,Bool.false_and]
   refine ⟨ev_step ?_,ev_step ?_⟩
   ·simp only [spec_IsWord.l0,mk8_size,if_pos z,if_pos z0,mk8_bt l i hi,spec_l2Letter.f]
    by_cases g1:((l[i]).toNat:Int) >= 97
    ·have g2:¬ ((l[i]).toNat:Int) <= 122:= by omega
     simp only [if_pos g1,decide_eq_false g2,Option.bind_some,Bool.false_eq_true,if_false]
     exact ev_const _
    ·simp only [if_neg g1,Option.bind_some,Bool.false_eq_true,if_false]
     exact ev_const _
   ·simp only [impl_IsWord.l0,mk8_size,if_pos z,if_pos z0,mk8_bt l i hi]
    by_cases g1:((l[i]).toNat:Int) < 97
    ·simp only [if_pos g1]; exact ev_const _
    ·have g2:((l[i]).toNat:Int) > 122:= by omega
     simp only [if_neg g1,if_pos g2]; exact ev_const _
theorem word_spec (t:List UInt8) (h:t.length <= 1000000):Ev (fun k => spec_IsWord.f k (mk8 t)) (wordB t):= (word_loop t h t.length 0 (by omega)).1
theorem word_impl (t:List UInt8) (h:t.length <= 1000000):Ev (fun k => impl_IsWord.f k (mk8 t)) (wordB t):= (word_loop t h t.length 0 (by omega)).2
abbrev TkS:= S43
def LexAt (l:List UInt8) (acc:List TkS) (i:Nat) (r:List TkS × Int):Prop:= Ev (fun k => spec_Lex.l0 k (mk8 l) acc (i:Int)) r /\ Ev (fun k => impl_Lex.l0 k (mk8 l) acc (i:Int)) r
section
variable (l:List UInt8) (hl:l.length <= 4000) (acc:List TkS)
include hl
theorem lex_end (i:Nat) (h:i = l.length):LexAt l acc i (acc,-1):= by
 have z:¬ (i:Int) < (l.length:Int):= by omega
 refine ⟨ev_step ?_,ev_step ?_⟩
 ·simp only [spec_Lex.l0,mk8_size,if_neg z]; exact ev_const _
 ·simp only [impl_Lex.l0,mk8_size,if_neg z]; exact ev_const _
theorem lex_space (i:Nat) (h:i < l.length) (hc:(l[i]).toNat = 32 \/ (l[i]).toNat = 10) (r:List TkS × Int) (q:LexAt l acc (i + 1) r):LexAt l acc i r:= by
 have z:(i:Int) < (l.length:Int):= by omega
 have z0:0 <= (i:Int):= Int.natCast_nonneg i
 obtain ⟨q1,q2⟩:= q
 refine ⟨ev_step ?_,ev_step ?_⟩
 ·simp only [spec_Lex.l0,mk8_size,if_pos z,if_pos z0,mk8_bt l i h]
  rcases hc with hc | hc
  ·simp only [if_pos (show ((l[i]).toNat:Int) = 32 by omega)]
   apply ev_step
   simp only [spec_Lex.j1,if_true,wrap_next i (by omega)]
   exact q1
  ·simp only [if_neg (show ¬ ((l[i]).toNat:Int) = 32 by omega),show (((l[i]).toNat:Int) == 10) = true from beq_iff_eq.mpr (by omega)]
   apply ev_step
   simp only [spec_Lex.j1,if_true,wrap_next i (by omega)]
   exact q1
 ·simp only [impl_Lex.l0,mk8_size,if_pos z,if_pos z0,mk8_bt l i h]
  rcases hc with hc | hc
  ·simp only [if_pos (show ((l[i]).toNat:Int) = 32 by omega),show (((l[i]).toNat:Int) == 32) = true from beq_iff_eq.mpr (by omega)]
   apply ev_step
   simp only [impl_Lex.j1,if_true,wrap_next i (by omega)]
   exact q2
  ·simp only [if_neg (show ¬ ((l[i]).toNat:Int) = 32 by omega),show (((l[i]).toNat:Int) == 10) = true from beq_iff_eq.mpr (by omega)]
   apply ev_step
   simp only [impl_Lex.j1,if_true,wrap_next i (by omega)]
   exact q2
theorem lex_other (i:Nat) (h:i < l.length) (h1:(l[i]).toNat ≠ 32) (h2:(l[i]).toNat ≠ 10) (r:List TkS × Int)
  (q1:Ev (fun k => spec_Lex.j1 k (mk8 l) acc (i:Int) ((l[i]).toNat:Int) false) r) (q2:Ev (fun k => impl_Lex.j1 k (mk8 l) acc (i:Int) ((l[i]).toNat:Int) false) r):LexAt l acc i r:= by
 have z:(i:Int) < (l.length:Int):= by omega
 have z0:0 <= (i:Int):= Int.natCast_nonneg i
 have c1:¬ ((l[i]).toNat:Int) = 32:= by omega
 have c2:(((l[i]).toNat:Int) == 10) = false:= beq_eq_false_iff_ne.mpr (by omega)
 refine ⟨ev_step ?_,ev_step ?_⟩
 ·simp only [spec_Lex.l0,mk8_size,if_pos z,if_pos z0,mk8_bt l i h,if_neg c1,c2]; exact q1
 ·simp only [impl_Lex.l0,mk8_size,if_pos z,if_pos z0,mk8_bt l i h,if_neg c1,c2]; exact q2
def no10 (c:UInt8):Bool:= decide (c.toNat ≠ 10)
theorem lex_skip (r:List TkS × Int) (d:Nat):∀ i,i + d = l.length -> LexAt l acc (i + ((l.drop i).takeWhile no10).length) r -> Ev (fun k => spec_Lex.l1 k (mk8 l) acc (i:Int)) r /\ Ev (fun k => impl_Lex.l1 k (mk8 l) acc (i:Int)) r:= by
 induction d with
 | zero =>
  intro i h q
  rw [List.drop_of_length_le (by omega)] at q
  obtain ⟨q1,q2⟩:= q
  have z:¬ (i:Int) < (l.length:Int):= by omega
  refine ⟨ev_step ?_,ev_step ?_⟩
  ·simp only [spec_Lex.l1,mk8_size,if_neg z]; exact q1
  ·simp only [impl_Lex.l1,mk8_size,if_neg z]; exact q2
 | succ d ih =>
  intro i h q
  have hi:i < l.length:= by omega
  have z:(i:Int) < (l.length:Int):= by omega
  have z0:0 <= (i:Int):= Int.natCast_nonneg i
  rw [drop_at l i hi,List.takeWhile_cons] at q
  by_cases c:(l[i]).toNat = 10
  ·rw [if_neg (by unfold no10; simpa using c)] at q
   obtain ⟨q1,q2⟩:= q
   have c1:((l[i]).toNat:Int) = 10:= by omega
   refine ⟨ev_step ?_,ev_step ?_⟩
   ·simp only [spec_Lex.l1,mk8_size,if_pos z,if_pos z0,mk8_bt l i hi,if_pos c1]; exact q1
   ·simp only [impl_Lex.l1,mk8_size,if_pos z,if_pos z0,mk8_bt l i hi,if_pos c1]; exact q2
  ·rw [if_pos (by unfold no10; simpa using c),List.length_cons] at q
   have c1:¬ ((l[i]).toNat:Int) = 10:= by omega
   obtain ⟨i1,i2⟩:= ih (i + 1) (by omega) (by rw [show i + 1 + ((l.drop (i + 1)).takeWhile no10).length = i + (((l.drop (i + 1)).takeWhile no10).length + 1) by omega]; exact q)
   refine ⟨ev_step ?_,ev_step ?_⟩
   ·simp only [spec_Lex.l1,mk8_size,if_pos z,if_pos z0,mk8_bt l i hi,if_neg c1,wrap_next i (by omega)]; exact i1
   ·simp only [impl_Lex.l1,mk8_size,if_pos z,if_pos z0,mk8_bt l i hi,if_neg c1,wrap_next i (by omega)]; exact i2
theorem lex_comment (i:Nat) (h:i < l.length) (hc:(l[i]).toNat = 35) (r:List TkS × Int) (q:LexAt l acc (i + ((l.drop i).takeWhile no10).length) r):LexAt l acc i r:= by
 obtain ⟨q1,q2⟩:= lex_skip l hl acc r (l.length - i) i (by omega) q
 refine lex_other l hl acc i h (by omega) (by omega) r (ev_step ?_) (ev_step ?_)
 ·simp only [spec_Lex.j1,Bool.false_eq_true,if_false,if_pos (show ((l[i]).toNat:Int) = 35 by omega)]; exact q1
 ·simp only [impl_Lex.j1,Bool.false_eq_true,if_false,if_pos (show ((l[i]).toNat:Int) = 35 by omega)]; exact q2
theorem one8 (i:Nat) (h:i < l.length):(mk8 l).extract ((i:Nat):Int).toNat ((((i:Nat):Int) + 1:Int)).toNat = mk8 [l[i]]:= by
 have:= ex8 l i 1
 rw [drop_at l i h] at this
 exact this
theorem lex_tok (i:Nat) (h:i < l.length) (hc:(l[i]).toNat ≠ 35) (kd n:Int) (t:List UInt8) (ha:acc.length <= 4000) (hi:i + t.length <= l.length) (r:List TkS × Int)
  (ht:Ev (fun k => impl_tokenAt.f k (mk8 l) (i:Int)) (kd,mk8 t,n,(i:Int),true)) (q:Ev (fun k => impl_Lex.l0 k (mk8 l) (acc ++ [⟨kd,mk8 t,n,(i:Int)⟩]) ((i + t.length:Nat):Int)) r):Ev (fun k => impl_Lex.j1 k (mk8 l) acc (i:Int) ((l[i]).toNat:Int) false) r:= by
 apply ev_step
 simp only [impl_Lex.j1,Bool.false_eq_true,if_false,if_neg (show ¬ ((l[i]).toNat:Int) = 35 by omega)]
 refine ev_bind ht ?_
 have w:wrap64 ((i:Int) + ((mk8 t).size:Int)) = ((i + t.length:Nat):Int):= by rw [mk8_size]; unfold wrap64; omega
 simp only [if_true,if_pos (show acc.length < 3518437208883 by omega),w]
 exact q
theorem lex_bad (i:Nat) (h:i < l.length) (hc:(l[i]).toNat ≠ 35) (a b:Int) (c:ByteArray) (d:Int)
  (ht:Ev (fun k => impl_tokenAt.f k (mk8 l) (i:Int)) (a,c,b,d,false)):Ev (fun k => impl_Lex.j1 k (mk8 l) acc (i:Int) ((l[i]).toNat:Int) false) (([]:List TkS),(i:Int)):= by
 apply ev_step
 simp only [impl_Lex.j1,Bool.false_eq_true,if_false,if_neg (show ¬ ((l[i]).toNat:Int) = 35 by omega)]
 refine ev_bind ht ?_
 simp only [Bool.false_eq_true,if_false]
 exact ev_const _
theorem tok_head (i:Nat) (h:i < l.length) (r:Int × ByteArray × Int × Int × Bool)
  (q:Ev (fun k => if ((l[i]).toNat:Int) = 40 then some (1,mk8 [l[i]],0,(i:Int),true) else if ((l[i]).toNat:Int) = 41 then some (2,mk8 [l[i]],0,(i:Int),true) else if ((l[i]).toNat:Int) >= 97 then impl_tokenAt.j0 k (mk8 l) (i:Int) ((l[i]).toNat:Int) (decide (((l[i]).toNat:Int) <= 122)) 0 (mk8 [l[i]]) 0 (i:Int) else impl_tokenAt.j0 k (mk8 l) (i:Int) ((l[i]).toNat:Int) false 0 (mk8 [l[i]]) 0 (i:Int)) r):Ev (fun k => impl_tokenAt.f k (mk8 l) (i:Int)) r:= by
 have z:(i:Int) < (l.length:Int):= by omega
 have z0:0 <= (i:Int):= Int.natCast_nonneg i
 have w:wrap64 ((i:Int) + 1) = (i:Int) + 1:= by unfold wrap64; omega
 unfold impl_tokenAt.f
 simp only [mk8_size,if_pos z,if_pos z0,w,if_pos (show (i:Int) <= (i:Int) + 1 by omega),if_pos (show (i:Int) + 1 <= (l.length:Int) by omega),mk8_bt l i h,one8 l hl i h]
 exact q
theorem lex_paren (i:Nat) (h:i < l.length) (kd:Nat) (hc:(l[i]).toNat = 39 + kd) (hk:kd = 1 \/ kd = 2) (ha:acc.length <= 4000) (r:List TkS × Int) (q:LexAt l (acc ++ [⟨(kd:Int),mk8 [l[i]],0,(i:Int)⟩]) (i + 1) r):LexAt l acc i r:= by
 obtain ⟨q1,q2⟩:= q
 refine lex_other l hl acc i h (by omega) (by omega) r (ev_step ?_) (lex_tok l hl acc i h (by omega) kd 0 [l[i]] ha (by simp; omega) r (tok_head l hl i h _ ?_) q2)
 ·have w:wrap64 ((i:Int) + 1) = ((i + 1:Nat):Int):= wrap_next i (by omega)
  simp only [spec_Lex.j1,Bool.false_eq_true,if_false,if_neg (show ¬ ((l[i]).toNat:Int) = 35 by omega),if_pos (show acc.length < 3518437208883 by omega),w]
  rcases hk with rfl | rfl
  ·have e:l[i] = 40:= UInt8.toNat_inj.1 (by simpa using hc)
   simp only [if_pos (show ((l[i]).toNat:Int) = 40 by omega)]
   rw [e] at q1
   exact q1
  ·have e:l[i] = 41:= UInt8.toNat_inj.1 (by simpa using hc)
   simp only [if_neg (show ¬ ((l[i]).toNat:Int) = 40 by omega),if_pos (show ((l[i]).toNat:Int) = 41 by omega)]
   rw [e] at q1
   exact q1
 ·rcases hk with rfl | rfl
  ·simp only [if_pos (show ((l[i]).toNat:Int) = 40 by omega)]; exact ev_const _
  ·simp only [if_neg (show ¬ ((l[i]).toNat:Int) = 40 by omega),if_pos (show ((l[i]).toNat:Int) = 41 by omega)]; exact ev_const _
theorem tok_word (i:Nat) (h:i < l.length) (hc:isLet l[i] = true):Ev (fun k => impl_tokenAt.f k (mk8 l) (i:Int)) (3,mk8 ((l.drop i).takeWhile isLet),0,(i:Int),wordB ((l.drop i).takeWhile isLet)):= by
 have hc':97 <= (l[i]).toNat /\ (l[i]).toNat <= 122:= by unfold isLet isIn at hc; simpa using hc
 have hle:= tw_le isLet (l.drop i)
 rw [List.length_drop] at hle
 refine tok_head l hl i h _ ?_
 simp only [if_neg (show ¬ ((l[i]).toNat:Int) = 40 by omega),if_neg (show ¬ ((l[i]).toNat:Int) = 41 by omega),if_pos (show ((l[i]).toNat:Int) >= 97 by omega),decide_eq_true (show ((l[i]).toNat:Int) <= 122 by omega)]
 apply ev_step
 simp only [impl_tokenAt.j0,if_true]
 refine ev_bind (run_impl 97 122 l (by omega) (l.length - i) i (by omega)) ?_
 have e:(mk8 l).extract ((i:Nat):Int).toNat (((i + ((l.drop i).takeWhile (isIn 97 122)).length:Nat):Nat):Int).toNat = mk8 ((l.drop i).takeWhile isLet):= by rw [ex8i,take_tw]; rfl
 have z1:(i:Int) <= ((i + ((l.drop i).takeWhile (isIn 97 122)).length:Nat):Int):= by omega
 have z2:((i + ((l.drop i).takeWhile (isIn 97 122)).length:Nat):Int) <= (l.length:Int):= by
  have:((l.drop i).takeWhile (isIn 97 122)).length <= l.length - i:= hle
  omega
 simp only [mk8_size,if_pos (show 0 <= (i:Int) by omega),if_pos z1,if_pos z2,e]
 exact ev_bind (word_impl _ (by omega)) (ev_const _)
theorem tok_num (i:Nat) (h:i < l.length) (hc:isDig l[i] = true):Ev (fun k => impl_tokenAt.f k (mk8 l) (i:Int)) (4,mk8 ((l.drop i).takeWhile isDig),(rdM ((l.drop i).takeWhile isDig)).1,(i:Int),((rdM ((l.drop i).takeWhile isDig)).2 && decide ((rdM ((l.drop i).takeWhile isDig)).1 <= 65535))):= by
 have hc':48 <= (l[i]).toNat /\ (l[i]).toNat <= 57:= by unfold isDig isIn at hc; simpa using hc
 have hle:= tw_le isDig (l.drop i)
 rw [List.length_drop] at hle
 refine tok_head l hl i h _ ?_
 simp only [if_neg (show ¬ ((l[i]).toNat:Int) = 40 by omega),if_neg (show ¬ ((l[i]).toNat:Int) = 41 by omega),if_neg (show ¬ ((l[i]).toNat:Int) >= 97 by omega)]
 apply ev_step
 simp only [impl_tokenAt.j0,Bool.false_eq_true,if_false,if_pos (show ((l[i]).toNat:Int) >= 48 by omega),decide_eq_true (show ((l[i]).toNat:Int) <= 57 by omega)]
 apply ev_step
 simp only [impl_tokenAt.j1,if_true]
 refine ev_bind (run_impl 48 57 l (by omega) (l.length - i) i (by omega)) ?_
 have e:(mk8 l).extract ((i:Nat):Int).toNat (((i + ((l.drop i).takeWhile (isIn 48 57)).length:Nat):Nat):Int).toNat = mk8 ((l.drop i).takeWhile isDig):= by rw [ex8i,take_tw]; rfl
 have z1:(i:Int) <= ((i + ((l.drop i).takeWhile (isIn 48 57)).length:Nat):Int):= by omega
 have z2:((i + ((l.drop i).takeWhile (isIn 48 57)).length:Nat):Int) <= (l.length:Int):= by
  have:((l.drop i).takeWhile (isIn 48 57)).length <= l.length - i:= hle
  omega
 simp only [mk8_size,if_pos (show 0 <= (i:Int) by omega),if_pos z1,if_pos z2,e,readdec_impl _ (show ((l.drop i).takeWhile isDig).length <= 281474976710656 by omega),Option.bind_some]
 cases hq:(rdM ((l.drop i).takeWhile isDig)).2
 ·simp only [Bool.false_eq_true,if_false,Bool.false_and]; exact ev_const _
 ·simp only [if_true,Bool.true_and]; exact ev_const _
theorem tok_no (i:Nat) (h:i < l.length) (h1:(l[i]).toNat ≠ 40) (h2:(l[i]).toNat ≠ 41) (hc:isLet l[i] = false) (hd:isDig l[i] = false):Ev (fun k => impl_tokenAt.f k (mk8 l) (i:Int)) (0,mk8 [l[i]],0,(i:Int),false):= by
 have hc':¬ (97 <= (l[i]).toNat /\ (l[i]).toNat <= 122):= by unfold isLet isIn at hc; simpa using hc
 have hd':¬ (48 <= (l[i]).toNat /\ (l[i]).toNat <= 57):= by unfold isDig isIn at hd; simpa using hd
 have fin:Ev (fun k => impl_tokenAt.j1 k (mk8 l) (i:Int) false 0 (mk8 [l[i]]) 0 (i:Int)) (0,mk8 [l[i]],0,(i:Int),false):= by
  apply ev_step
  simp only [impl_tokenAt.j1,Bool.false_eq_true,if_false]
  exact ev_const _
 have fin0:Ev (fun k => impl_tokenAt.j0 k (mk8 l) (i:Int) ((l[i]).toNat:Int) false 0 (mk8 [l[i]]) 0 (i:Int)) (0,mk8 [l[i]],0,(i:Int),false):= by
  apply ev_step
  simp only [impl_tokenAt.j0,Bool.false_eq_true,if_false]
  by_cases g:((l[i]).toNat:Int) >= 48
  ·simp only [if_pos g,decide_eq_false (show ¬ ((l[i]).toNat:Int) <= 57 by omega)]; exact fin
  ·simp only [if_neg g]; exact fin
 refine tok_head l hl i h _ ?_
 simp only [if_neg (show ¬ ((l[i]).toNat:Int) = 40 by omega),if_neg (show ¬ ((l[i]).toNat:Int) = 41 by omega)]
 by_cases g:((l[i]).toNat:Int) >= 97
 ·simp only [if_pos g,decide_eq_false (show ¬ ((l[i]).toNat:Int) <= 122 by omega)]; exact fin0
 ·simp only [if_neg g]; exact fin0
theorem lex_word (i:Nat) (h:i < l.length) (hc:isLet l[i] = true) (ha:acc.length <= 4000) (r:List TkS × Int) (q:if wordB ((l.drop i).takeWhile isLet) = true then LexAt l (acc ++ [⟨3,mk8 ((l.drop i).takeWhile isLet),0,(i:Int)⟩]) (i + ((l.drop i).takeWhile isLet).length) r else r = ([],(i:Int))):LexAt l acc i r:= by
 have hc':97 <= (l[i]).toNat /\ (l[i]).toNat <= 122:= by unfold isLet isIn at hc; simpa using hc
 have hle:= tw_le isLet (l.drop i)
 rw [List.length_drop] at hle
 have tk:= tok_word l hl i h hc
 have e:(mk8 l).extract ((i:Nat):Int).toNat (((i + ((l.drop i).takeWhile isLet).length:Nat):Nat):Int).toNat = mk8 ((l.drop i).takeWhile isLet):= by rw [ex8i,take_tw]
 have z1:(i:Int) <= ((i + ((l.drop i).takeWhile isLet).length:Nat):Int):= by omega
 have z2:((i + ((l.drop i).takeWhile isLet).length:Nat):Int) <= (l.length:Int):= by omega
 refine lex_other l hl acc i h (by omega) (by omega) r (ev_step ?_) ?_
 ·simp only [spec_Lex.j1,Bool.false_eq_true,if_false,if_neg (show ¬ ((l[i]).toNat:Int) = 35 by omega),if_neg (show ¬ ((l[i]).toNat:Int) = 40 by omega),if_neg (show ¬ ((l[i]).toNat:Int) = 41 by omega),spec_l2Letter.f,if_pos (show ((l[i]).toNat:Int) >= 97 by omega),decide_eq_true (show ((l[i]).toNat:Int) <= 122 by omega),Option.bind_some,if_true]
  refine ev_bind (run_let l (by omega) (l.length - i) i (by omega)) ?_
  simp only [mk8_size,if_pos (show 0 <= (i:Int) by omega),if_pos z1,if_pos z2,e]
  refine ev_bind (word_spec _ (by omega)) ?_
  by_cases g:wordB ((l.drop i).takeWhile isLet) = true
  ·rw [if_pos g] at q
   simp only [if_pos g,if_pos (show acc.length < 3518437208883 by omega)]
   exact q.1
  ·rw [if_neg g] at q
   subst q
   simp only [if_neg g]
   exact ev_const _
 ·by_cases g:wordB ((l.drop i).takeWhile isLet) = true
  ·rw [if_pos g] at q
   rw [g] at tk
   exact lex_tok l hl acc i h (by omega) 3 0 _ ha (by omega) r tk q.2
  ·rw [if_neg g] at q
   subst q
   rw [Bool.eq_false_iff.mpr g] at tk
   exact lex_bad l hl acc i h (by omega) _ _ _ _ tk
theorem lex_num (i:Nat) (h:i < l.length) (hc:isDig l[i] = true) (ha:acc.length <= 4000) (r:List TkS × Int) (q:if (rdM ((l.drop i).takeWhile isDig)).2 = true /\ (rdM ((l.drop i).takeWhile isDig)).1 <= 65535 then LexAt l (acc ++ [⟨4,mk8 ((l.drop i).takeWhile isDig),(rdM ((l.drop i).takeWhile isDig)).1,(i:Int)⟩]) (i + ((l.drop i).takeWhile isDig).length) r else r = ([],(i:Int))):LexAt l acc i r:= by
 have hc':48 <= (l[i]).toNat /\ (l[i]).toNat <= 57:= by unfold isDig isIn at hc; simpa using hc
 have hle:= tw_le isDig (l.drop i)
 rw [List.length_drop] at hle
 have tk:= tok_num l hl i h hc
 have e:(mk8 l).extract ((i:Nat):Int).toNat (((i + ((l.drop i).takeWhile isDig).length:Nat):Nat):Int).toNat = mk8 ((l.drop i).takeWhile isDig):= by rw [ex8i,take_tw]
 have z1:(i:Int) <= ((i + ((l.drop i).takeWhile isDig).length:Nat):Int):= by omega
 have z2:((i + ((l.drop i).takeWhile isDig).length:Nat):Int) <= (l.length:Int):= by omega
 refine lex_other l hl acc i h (by omega) (by omega) r (ev_step ?_) ?_
 ·simp only [spec_Lex.j1,Bool.false_eq_true,if_false,if_neg (show ¬ ((l[i]).toNat:Int) = 35 by omega),if_neg (show ¬ ((l[i]).toNat:Int) = 40 by omega),if_neg (show ¬ ((l[i]).toNat:Int) = 41 by omega),spec_l2Letter.f,if_neg (show ¬ ((l[i]).toNat:Int) >= 97 by omega),spec_l2Digit.f,if_pos (show ((l[i]).toNat:Int) >= 48 by omega),decide_eq_true (show ((l[i]).toNat:Int) <= 57 by omega),Option.bind_some,if_true]
  refine ev_bind (run_dig l (by omega) (l.length - i) i (by omega)) ?_
  simp only [mk8_size,if_pos (show 0 <= (i:Int) by omega),if_pos z1,if_pos z2,e]
  refine ev_bind (readdec_spec _) ?_
  by_cases g:(rdM ((l.drop i).takeWhile isDig)).2 = true
  ·by_cases g2:(rdM ((l.drop i).takeWhile isDig)).1 <= 65535
   ·rw [if_pos ⟨g,g2⟩] at q
    simp only [if_pos g,if_neg (show ¬ (rdM ((l.drop i).takeWhile isDig)).1 > 65535 by omega),if_pos (show acc.length < 3518437208883 by omega)]
    exact q.1
   ·rw [if_neg (fun z => g2 z.2)] at q
    subst q
    simp only [if_pos g,if_pos (show (rdM ((l.drop i).takeWhile isDig)).1 > 65535 by omega)]
    exact ev_const _
  ·rw [if_neg (fun z => g z.1)] at q
   subst q
   simp only [if_neg g]
   exact ev_const _
 ·by_cases g:(rdM ((l.drop i).takeWhile isDig)).2 = true /\ (rdM ((l.drop i).takeWhile isDig)).1 <= 65535
  ·rw [if_pos g] at q
   rw [g.1,decide_eq_true g.2,Bool.true_and] at tk
   exact lex_tok l hl acc i h (by omega) 4 _ _ ha (by omega) r tk q.2
  ·rw [if_neg g] at q
   subst q
   have:((rdM ((l.drop i).takeWhile isDig)).2 && decide ((rdM ((l.drop i).takeWhile isDig)).1 <= 65535)) = false:= by
    cases hq:(rdM ((l.drop i).takeWhile isDig)).2
    ·rfl
    ·rw [Bool.true_and]; exact decide_eq_false (fun z => g ⟨hq,z⟩)
   rw [this] at tk
   exact lex_bad l hl acc i h (by omega) _ _ _ _ tk
theorem lex_no (i:Nat) (h:i < l.length) (h0:(l[i]).toNat ≠ 32) (h9:(l[i]).toNat ≠ 10) (h35:(l[i]).toNat ≠ 35) (h1:(l[i]).toNat ≠ 40) (h2:(l[i]).toNat ≠ 41) (hc:isLet l[i] = false) (hd:isDig l[i] = false):LexAt l acc i ([],(i:Int)):= by
 have hc':¬ (97 <= (l[i]).toNat /\ (l[i]).toNat <= 122):= by unfold isLet isIn at hc; simpa using hc
 have hd':¬ (48 <= (l[i]).toNat /\ (l[i]).toNat <= 57):= by unfold isDig isIn at hd; simpa using hd
 refine lex_other l hl acc i h h0 h9 _ (ev_step ?_) (lex_bad l hl acc i h h35 _ _ _ _ (tok_no l hl i h h1 h2 hc hd))
 simp only [spec_Lex.j1,Bool.false_eq_true,if_false,if_neg (show ¬ ((l[i]).toNat:Int) = 35 by omega),if_neg (show ¬ ((l[i]).toNat:Int) = 40 by omega),if_neg (show ¬ ((l[i]).toNat:Int) = 41 by omega),spec_l2Letter.f,spec_l2Digit.f]
 have e1:(if ((l[i]).toNat:Int) >= 97 then some (decide (((l[i]).toNat:Int) <= 122)) else some false) = some false:= by
  split
  ·rw [decide_eq_false (by omega)]
  ·rfl
 have e2:(if ((l[i]).toNat:Int) >= 48 then some (decide (((l[i]).toNat:Int) <= 57)) else some false) = some false:= by
  split
  ·rw [decide_eq_false (by omega)]
  ·rfl
 simp only [e1,e2,Option.bind_some,Bool.false_eq_true,if_false]
 exact ev_const _
end
def TokOK (l:List UInt8) (t:TkS):Prop:= ∃ (i:Nat) (u:List UInt8),t.f3 = (i:Int) /\ t.f1 = mk8 u /\ i + u.length <= l.length /\ (l.drop i).take u.length = u /\ 1 <= u.length /\
 ((t.f0 = 1 /\ u = [40] /\ t.f2 = 0) \/ (t.f0 = 2 /\ u = [41] /\ t.f2 = 0) \/ (t.f0 = 3 /\ wordB u = true /\ t.f2 = 0) \/ (t.f0 = 4 /\ u.all isDig = true /\ rdM u = (t.f2,true) /\ t.f2 <= 65535))
def Toks (l:List UInt8):List TkS -> Nat -> Prop
 | [],_ => True
 | t :: ts,lo => TokOK l t /\ (lo:Int) <= t.f3 /\ Toks l ts (t.f3.toNat + t.f1.size)
theorem lex_all (l:List UInt8) (hl:l.length <= 4000) (d:Nat):∀ (i:Nat) (acc:List TkS),i <= l.length -> l.length - i <= d -> acc.length <= i -> ∃ r,LexAt l acc i r /\ ((∃ ts,r = (acc ++ ts,-1) /\ Toks l ts i /\ ts.length + i <= l.length) \/ (∃ j:Nat,j < l.length /\ r = ([],(j:Int)))):= by
 induction d with
 | zero =>
  intro i acc h0 h1 h2
  exact ⟨_,lex_end l hl acc i (by omega),Or.inl ⟨[],by simp,trivial,by simp; omega⟩⟩
 | succ d ih =>
  intro i acc h0 h1 h2
  by_cases hi:i < l.length
  ·by_cases c1:(l[i]).toNat = 32 \/ (l[i]).toNat = 10
   ·obtain ⟨r,q,p⟩:= ih (i + 1) acc (by omega) (by omega) (by omega)
    refine ⟨r,lex_space l hl acc i hi c1 r q,?_⟩
    rcases p with ⟨ts,p1,p2,p3⟩ | p
    ·refine Or.inl ⟨ts,p1,?_,by omega⟩
     cases ts with
     | nil => trivial
     | cons t ts => exact ⟨p2.1,by have:= p2.2.1; omega,p2.2.2⟩
    ·exact Or.inr p
   ·by_cases c2:(l[i]).toNat = 35
    ·have hle:= tw_le no10 (l.drop i)
     rw [List.length_drop] at hle
     have hpos:1 <= ((l.drop i).takeWhile no10).length:= by
      rw [drop_at l i hi,List.takeWhile_cons,if_pos (by unfold no10; simp; omega)]; simp
     obtain ⟨r,q,p⟩:= ih (i + ((l.drop i).takeWhile no10).length) acc (by omega) (by omega) (by omega)
     refine ⟨r,lex_comment l hl acc i hi c2 r q,?_⟩
     rcases p with ⟨ts,p1,p2,p3⟩ | p
     ·refine Or.inl ⟨ts,p1,?_,by omega⟩
      cases ts with
      | nil => trivial
      | cons t ts => exact ⟨p2.1,by have:= p2.2.1; omega,p2.2.2⟩
     ·exact Or.inr p
    ·
     have step:∀ (kd n:Int) (u:List UInt8),1 <= u.length -> i + u.length <= l.length -> (l.drop i).take u.length = u -> ((kd = 1 /\ u = [40] /\ n = 0) \/ (kd = 2 /\ u = [41] /\ n = 0) \/ (kd = 3 /\ wordB u = true /\ n = 0) \/ (kd = 4 /\ u.all isDig = true /\ rdM u = (n,true) /\ n <= 65535)) ->
       ∃ r,LexAt l (acc ++ [⟨kd,mk8 u,n,(i:Int)⟩]) (i + u.length) r /\ ((∃ ts,r = (acc ++ ts,-1) /\ Toks l ts i /\ ts.length + i <= l.length) \/ (∃ j:Nat,j < l.length /\ r = ([],(j:Int)))):= by
      intro kd n u hu1 hu2 hu3 hu4
      obtain ⟨r,q,p⟩:= ih (i + u.length) (acc ++ [⟨kd,mk8 u,n,(i:Int)⟩]) (by omega) (by omega) (by simp; omega)
      refine ⟨r,q,?_⟩
      rcases p with ⟨ts,p1,p2,p3⟩ | p
      ·refine Or.inl ⟨⟨kd,mk8 u,n,(i:Int)⟩ :: ts,by rw [p1]; simp,⟨⟨i,u,rfl,rfl,hu2,hu3,hu1,hu4⟩,Int.le_refl _,?_⟩,by simp; omega⟩
       simp only [Int.toNat_natCast,mk8_size]
       exact p2
      ·exact Or.inr p
     have one:(l.drop i).take 1 = [l[i]]:= by rw [drop_at l i hi]; rfl
     by_cases c3:(l[i]).toNat = 40
     ·have e:l[i] = 40:= UInt8.toNat_inj.1 (by simpa using c3)
      obtain ⟨r,q,p⟩:= step 1 0 [l[i]] (by simp) (by simp; omega) one (Or.inl ⟨rfl,by rw [e],rfl⟩)
      exact ⟨r,lex_paren l hl acc i hi 1 (by omega) (Or.inl rfl) (by omega) r q,p⟩
     ·by_cases c4:(l[i]).toNat = 41
      ·have e:l[i] = 41:= UInt8.toNat_inj.1 (by simpa using c4)
       obtain ⟨r,q,p⟩:= step 2 0 [l[i]] (by simp) (by simp; omega) one (Or.inr (Or.inl ⟨rfl,by rw [e],rfl⟩))
       exact ⟨r,lex_paren l hl acc i hi 2 (by omega) (Or.inr rfl) (by omega) r q,p⟩
      ·cases c5:isLet l[i]
       ·cases c6:isDig l[i]
        ·exact ⟨_,lex_no l hl acc i hi (fun z => c1 (Or.inl z)) (fun z => c1 (Or.inr z)) c2 c3 c4 c5 c6,Or.inr ⟨i,hi,rfl⟩⟩
        ·have hle:= tw_le isDig (l.drop i)
         rw [List.length_drop] at hle
         have hpos:1 <= ((l.drop i).takeWhile isDig).length:= by
          rw [drop_at l i hi,List.takeWhile_cons,if_pos c6]; simp
         by_cases g:(rdM ((l.drop i).takeWhile isDig)).2 = true /\ (rdM ((l.drop i).takeWhile isDig)).1 <= 65535
         ·obtain ⟨r,q,p⟩:= step 4 (rdM ((l.drop i).takeWhile isDig)).1 ((l.drop i).takeWhile isDig) hpos (by omega) (take_tw _ _) (Or.inr (Or.inr (Or.inr ⟨rfl,tw_all _ _,by rw [<- g.1],g.2⟩)))
          exact ⟨r,lex_num l hl acc i hi c6 (by omega) r (by rw [if_pos g]; exact q),p⟩
         ·exact ⟨_,lex_num l hl acc i hi c6 (by omega) _ (by rw [if_neg g]),Or.inr ⟨i,hi,rfl⟩⟩
       ·have hle:= tw_le isLet (l.drop i)
        rw [List.length_drop] at hle
        have hpos:1 <= ((l.drop i).takeWhile isLet).length:= by
         rw [drop_at l i hi,List.takeWhile_cons,if_pos c5]; simp
        by_cases g:wordB ((l.drop i).takeWhile isLet) = true
        ·obtain ⟨r,q,p⟩:= step 3 0 ((l.drop i).takeWhile isLet) hpos (by omega) (take_tw _ _) (Or.inr (Or.inr (Or.inl ⟨rfl,g,rfl⟩)))
         exact ⟨r,lex_word l hl acc i hi c5 (by omega) r (by rw [if_pos g]; exact q),p⟩
        ·exact ⟨_,lex_word l hl acc i hi c5 (by omega) _ (by rw [if_neg g]),Or.inr ⟨i,hi,rfl⟩⟩
  ·exact ⟨_,lex_end l hl acc i (by omega),Or.inl ⟨[],by simp,trivial,by simp; omega⟩⟩
theorem text_loop (d:Nat):∀ (n:Int) (s:ByteArray),0 <= n -> n.toNat < 10 ^ d -> d <= 18 -> s.size + d <= 100 -> ∃ t,Ev (fun k => laws_markText.l0 k n s) t:= by
 induction d with
 | zero =>
  intro n s h0 h1 hd hs
  have c:¬ n > 0:= by simp at h1; omega
  have c2:1 + s.size <= 9223372036854775807:= by omega
  refine ⟨(⟨#[109]⟩:ByteArray) ++ s,ev_step ?_⟩
  simp only [laws_markText.l0,if_neg c,if_pos c2]
  exact ev_const _
 | succ d ih =>
  intro n s h0 h1 hd hs
  by_cases c:n > 0
  ·have hp:10 ^ (d + 1) = 10 * 10 ^ d:= by rw [Nat.pow_succ,Nat.mul_comm]
   have e1:n.tdiv 10 = n / 10:= Int.tdiv_eq_ediv_of_nonneg h0
   have hm:10 ^ d <= 10 ^ 18:= Nat.pow_le_pow_right (by omega) (by omega)
   have hm2:10 ^ 18 = 1000000000000000000:= by decide
   rw [hm2] at hm
   rw [hp] at h1
   have hb:(n / 10).toNat < 10 ^ d:= by omega
   have e2:wrap64 (n.tdiv 10) = n / 10:= by rw [e1]; unfold wrap64; omega
   have hz:∀ x:Int,(strOfNums [x]).size = 1:= fun x => rfl
   have c2:(1:Nat) + s.size <= 9223372036854775807:= by omega
   obtain ⟨t,ht⟩:= ih (n / 10) (strOfNums [(wrap64 (48 + (Int.tmod n 10))) % 256] ++ s) (by omega) hb (by omega) (by rw [ByteArray.size_append,hz]; omega)
   refine ⟨t,ev_step ?_⟩
   simp only [laws_markText.l0,if_pos c,Option.bind_some,hz,if_pos c2,e2]
   exact ht
  ·have c2:1 + s.size <= 9223372036854775807:= by omega
   refine ⟨(⟨#[109]⟩:ByteArray) ++ s,ev_step ?_⟩
   simp only [laws_markText.l0,if_neg c,if_pos c2]
   exact ev_const _
theorem text_some (n:Int) (h:n < 1000000000000000000):∃ t,Ev (fun k => laws_markText.f k n) t:= by
 unfold laws_markText.f
 by_cases c:n <= 0
 ·simp only [if_pos c]
  exact ⟨_,ev_const _⟩
 ·simp only [if_neg c]
  have hm2:10 ^ 18 = 1000000000000000000:= by decide
  exact text_loop 18 n _ (by omega) (by rw [hm2]; omega) (by omega) (by decide)
noncomputable def textM (n:Int):ByteArray:= if h:n < 1000000000000000000 then Classical.choose (text_some n h) else ⟨#[]⟩
theorem ev_text (n:Int) (h:n < 1000000000000000000):Ev (fun k => laws_markText.f k n) (textM n):= by
 unfold textM
 rw [dif_pos h]
 exact Classical.choose_spec (text_some n h)
theorem rdT_get (xs:List S43) (i:Nat) (h:i < xs.length):rd_T43 xs (i:Int) = xs[i]:= by
 unfold rd_T43
 simp [List.getD_eq_getElem?_getD,List.getElem?_eq_getElem h]
theorem ev_eqT (l:List S43) (hn:l.length <= 1048576) (d:Nat):∀ (i:Nat),i + d = l.length -> Ev (fun k => laws_eqTokenS.l0 k l l i) true:= by
 induction d with
 | zero =>
  intro i hd
  apply ev_step
  have c:¬ (i:Int) < (l.length:Int):= by omega
  simp only [laws_eqTokenS.l0,if_neg c]
  exact ev_const _
 | succ d ih =>
  intro i hd
  apply ev_step
  have c:(i:Int) < (l.length:Int):= by omega
  have c0:0 <= (i:Int):= Int.natCast_nonneg i
  simp only [laws_eqTokenS.l0,laws_eqToken.f,if_true,Option.bind_some,if_pos c,if_pos c0,wrap_next i (by omega)]
  exact ih (i + 1) (by omega)
theorem ev_sameT (l:List S43) (hn:l.length <= 1048576):Ev (fun k => laws_eqTokenS.f k l l) true:= by
 unfold laws_eqTokenS.f
 simp only [if_true]
 exact ev_eqT l hn l.length 0 (by omega)
noncomputable def markT (c:Int):S43:= ⟨c,textM (c + 1),c + 2,c + 3⟩
noncomputable def marksT:Nat -> Int -> List S43
 | 0,_ => []
 | n + 1,c => markT c :: marksT n (c + 4)
theorem rdT_at (done:List S43) (r:S43) (rest:List S43):rd_T43 (done ++ r :: rest) (done.length:Int) = r:= by
 rw [rdT_get _ _ (by simp)]
 simp
theorem setT_at (done:List S43) (r v:S43) (rest:List S43):(done ++ r :: rest).set done.length v = done ++ v :: rest:= by
 rw [List.set_append_right _ _ (Nat.le_refl _),Nat.sub_self]
 rfl
theorem mark_toks_loop:∀ (rest done:List S43) (c:Int),0 <= c -> c + 4 * rest.length <= 1000000000 -> done.length + rest.length <= 1048576 ->
  Ev (fun k => laws_markTokenS.l0 k (done ++ rest) c (done.length:Int)) (c + 4 * rest.length,done ++ marksT rest.length c):= by
 intro rest
 induction rest with
 | nil =>
  intro done c h0 h1 h2
  apply ev_step
  have d:¬ (done.length:Int) < ((done ++ ([]:List S43)).length:Int):= by simp
  simp only [laws_markTokenS.l0,if_neg d]
  exact ev_eq (ev_const _) (by simp [marksT])
 | cons r rest ih =>
  intro done c h0 h1 h2
  simp only [List.length_cons] at h1 h2
  apply ev_step
  have d:(done.length:Int) < ((done ++ r :: rest).length:Int):= by simp; omega
  have d0:0 <= (done.length:Int):= by omega
  have w:∀ x:Int,0 <= x -> x <= 2000000000 -> wrap64 x = x:= fun x a b => by unfold wrap64; omega
  have w1:wrap64 (c + 1) = c + 1:= w _ (by omega) (by omega)
  have w2:wrap64 (c + 1 + 1) = c + 2:= by rw [w _ (by omega) (by omega)]; omega
  have w3:wrap64 (c + 2 + 1) = c + 3:= by rw [w _ (by omega) (by omega)]; omega
  have w4:wrap64 (c + 3 + 1) = c + 4:= by rw [w _ (by omega) (by omega)]; omega
  simp only [laws_markTokenS.l0,if_pos d,if_pos d0,Option.bind_some,Int.toNat_natCast,rdT_at,setT_at,w1,w2,w3,w4,wrap_next done.length (by omega)]
  refine ev_bind (ev_text (c + 1) (by omega)) ?_
  have:= ih (done ++ [markT c]) (c + 4) (by omega) (by omega) (by simp; omega)
  simp only [List.append_assoc,List.singleton_append,List.length_append,List.length_singleton] at this
  refine ev_eq this ?_
  rw [List.length_cons,marksT]
  congr 1
  omega
theorem mark_toks (l:List S43) (h:l.length <= 1048576):Ev (fun k => laws_markTokenS.f k l 1) (1 + 4 * (l.length:Int),marksT l.length 1):= mark_toks_loop l [] 1 (by omega) (by omega) (by simpa using h)
theorem held_toks_loop:∀ (n:Nat) (done:List S43) (c:Int),0 <= c -> c + 4 * n <= 1000000000 -> done.length + n <= 1048576 ->
  Ev (fun k => laws_heldTokenS.l0 k (done ++ marksT n c) c (done.length:Int)) (c + 4 * n):= by
 intro n
 induction n with
 | zero =>
  intro done c h0 h1 h2
  apply ev_step
  have d:¬ (done.length:Int) < ((done ++ marksT 0 c).length:Int):= by simp [marksT]
  simp only [laws_heldTokenS.l0,if_neg d]
  exact ev_eq (ev_const _) (by omega)
 | succ n ih =>
  intro done c h0 h1 h2
  apply ev_step
  rw [marksT]
  have d:(done.length:Int) < ((done ++ markT c :: marksT n (c + 4)).length:Int):= by simp; omega
  have d0:0 <= (done.length:Int):= by omega
  have w:∀ x:Int,0 <= x -> x <= 2000000000 -> wrap64 x = x:= fun x a b => by unfold wrap64; omega
  have w1:wrap64 (c + 1) = c + 1:= w _ (by omega) (by omega)
  have w2:wrap64 (c + 1 + 1) = c + 2:= by rw [w _ (by omega) (by omega)]; omega
  have w3:wrap64 (c + 2 + 1) = c + 3:= by rw [w _ (by omega) (by omega)]; omega
  have w4:wrap64 (c + 3 + 1) = c + 4:= by rw [w _ (by omega) (by omega)]; omega
  have f0:(markT c).f0 = c:= rfl
  have f1:(markT c).f1 = textM (c + 1):= rfl
  have f2:(markT c).f2 = c + 2:= rfl
  have f3:(markT c).f3 = c + 3:= rfl
  simp only [laws_heldTokenS.l0,if_pos d,if_pos d0,rdT_at,w1,w2,w3,w4,wrap_next done.length (by omega),f0,f1,f2,f3,if_true]
  refine ev_bind (ev_text (c + 1) (by omega)) ?_
  simp only [if_true]
  have:= ih (done ++ [markT c]) (c + 4) (by omega) (by omega) (by simp; omega)
  simp only [List.append_assoc,List.singleton_append,List.length_append,List.length_singleton] at this
  exact ev_eq this (by omega)
theorem held_toks (n:Nat) (h:n <= 1048576):Ev (fun k => laws_heldTokenS.f k (marksT n 1) 1) (1 + 4 * (n:Int)):= held_toks_loop n [] 1 (by omega) (by omega) (by simpa using h)
theorem lex_both (a:ByteArray):∃ r,Ev (fun k => spec_Lex.f k a) r /\ Ev (fun k => impl_Lex.f k a) r /\ r.1.length <= 4000:= by
 unfold spec_Lex.f impl_Lex.f
 simp only [Option.bind_some]
 by_cases h:(a.size:Int) > 4000
 ·simp only [if_pos h]
  exact ⟨_,ev_const _,ev_const _,by simp⟩
 ·simp only [if_neg h]
  have hs:a.data.toList.length = a.size:= by rw [Array.length_toList]; rfl
  obtain ⟨r,⟨q1,q2⟩,p⟩:= lex_all a.data.toList (by omega) a.size 0 [] (by omega) (by omega) (by simp)
  refine ⟨r,q1,q2,?_⟩
  rcases p with ⟨ts,p1,p2,p3⟩ | ⟨j,_,p1⟩
  ·rw [p1]; simp only [List.nil_append]; omega
  ·rw [p1]; simp
theorem FnExactLex:Pure:= by
 intro a _
 refine Ev.rounds ?_
 unfold laws_FnExactLex.f
 by_cases h:(a.size:Int) > 1048576
 ·simp only [if_pos h]; exact ev_const _
 ·simp only [if_neg h]
  obtain ⟨r,h1,h2,h3⟩:= lex_both a
  refine ev_bind h1 (ev_bind h2 (ev_bind (ev_sameT _ (by omega)) ?_))
  simp only [if_true,bne_self_eq_false]
  apply ev_step
  simp only [laws_FnExactLex.j0,Bool.false_eq_true,if_false]
  have c:¬ 1 + 4 * (r.1.length:Int) < 0:= by omega
  refine ev_bind (mark_toks _ (by omega)) (ev_bind (held_toks _ (by omega)) ?_)
  simp only [if_neg c,if_true]
  refine ev_bind h2 (ev_bind (ev_sameT _ (by omega)) ?_)
  simp only [if_true,bne_self_eq_false]
  apply ev_step
  simp only [laws_FnExactLex.j1,Bool.false_eq_true,if_false]
  refine ev_bind (held_toks _ (by omega)) ?_
  simp only [if_neg c,if_true]
  exact ev_const _
end Go.Proofs.YtdjamdnjkdllgaaDoor.Pure

