/- PureFnNumbers, of the words and walks that the law FnNumbers needs; made by this session's program out of printed texts. -/

import Derived.Test.YtdjamdnjkdllgaaDoorVFnNumbersSay
import Derived.Laws.Strings
import Derived.Laws.BitsLemmas
set_option linter.unusedVariables false
set_option linter.unusedSimpArgs false
namespace Go.Proofs.YtdjamdnjkdllgaaDoor.Pure
open Go.RowKit Go.Proofs.YtdjamdnjkdllgaaDoor.PFnNumbers Go.Proofs.YtdjamdnjkdllgaaDoorW.PrintWords Go.Proofs.YtdjamdnjkdllgaaDoorW.PrintLast Go.Proofs.YtdjamdnjkdllgaaDoor.SayFnNumbers
theorem wrap_next (i:Nat) (h:i < 4611686018427387904):wrap64 ((i:Int) + 1) = ((i + 1:Nat):Int):= by unfold wrap64; omega
theorem ev_step {α:Type} {g:Nat -> Option α} {r:α} (h:Ev (fun k => g (k + 1)) r):Ev g r:= Ev.step (fun _ => rfl) h
theorem ev_bind {α β:Type} {g:Nat -> Option α} {f:Nat -> α -> Option β} {a:α} {r:β} (h:Ev g a) (k:Ev (fun n => f n a) r):Ev (fun n => (g n).bind (f n)) r:= Ev.bind h k
theorem ev_const {α:Type} (r:α):Ev (fun _ => some r) r:= Ev.now r
theorem ev_at {α:Type} {g:Nat -> Option α} {r:α} (n:Nat) (h:∀ k,n <= k -> g k = some r):Ev g r:= ⟨n,h⟩
theorem ev_eq {α:Type} {g:Nat -> Option α} {r q:α} (h:Ev g r) (e:r = q):Ev g q:= e ▸ h
theorem and255 (n:Int):Go.bits .and .i64 n 255 = n % 256:= by
 have h:(BitVec.ofInt 64 255).toNat = 2 ^ 8 - 1:= by decide
 have key:(BitVec.ofInt 64 n &&& BitVec.ofInt 64 255).toNat = (n % ((2 ^ 64:Nat):Int)).toNat % 2 ^ 8:= by
  rw [BitVec.toNat_and,BitVec.toNat_ofInt,h,Nat.and_two_pow_sub_one_eq_mod]
 show IntKind.i64.wrap ((BitVec.ofInt 64 n &&& BitVec.ofInt 64 255).toNat:Nat) = n % 256
 rw [key,IntKind.wrap_i64]
 omega
def Cur (c:List Int) (i:Int):Prop:= 0 <= i /\ i <= c.length
theorem new_loop (c:List Int) (hc:c.length <= 1048576) (d:Nat):∀ (i:Nat) (x:Int),i + d = c.length -> ∃ h,Ev (fun k => spec_l1New.l0 k c x (i:Int)) (c,0,h):= by
 induction d with
 | zero =>
  intro i x hi
  refine ⟨x,ev_step ?_⟩
  simp only [spec_l1New.l0,if_neg (show ¬ (i:Int) < (c.length:Int) by omega)]
  exact ev_const _
 | succ d ih =>
  intro i x hi
  have h1:(i:Int) < (c.length:Int):= by omega
  have h0:0 <= (i:Int):= Int.natCast_nonneg i
  by_cases h4:(i:Int) < 4000
  ·obtain ⟨h,q⟩:= ih (i + 1) (Go.bits .and .i64 (wrap64 ((wrap64 ((wrap64 (x * 131)) + (wrap64 (rd c (i:Int))))) + 7)) 1073741823) (by omega)
   refine ⟨h,ev_step ?_⟩
   simp only [spec_l1New.l0,if_pos h1,if_pos h4,if_pos h0,wrap_next i (by omega)]
   exact q
  ·refine ⟨x,ev_step ?_⟩
   simp only [spec_l1New.l0,if_pos h1,if_neg h4]
   exact ev_const _
theorem new_ev (c:List Int) (hc:c.length <= 1048576):∃ h,Ev (fun k => spec_l1New.f k c) (c,0,h):= new_loop c hc c.length 0 _ (by omega)
theorem cur0 (c:List Int):Cur c 0:= ⟨by omega,by omega⟩
theorem byte_ok (c:List Int) (hc:c.length <= 1048576) (i h:Int) (hi:Cur c i):∃ x j g,spec_l1Byte.f c i h = some (x,j,g) /\ 0 <= x /\ x <= 255 /\ Cur c j:= by
 obtain ⟨h0,h1⟩:= hi
 unfold spec_l1Byte.f
 by_cases z:i < (c.length:Int)
 ·have w:wrap64 (i + 1) = i + 1:= by unfold wrap64; omega
  simp only [if_pos z,if_pos h0,w,and255]
  exact ⟨_,_,_,rfl,by omega,by omega,by omega,by omega⟩
 ·simp only [if_neg z,and255]
  exact ⟨_,_,_,rfl,by omega,by omega,h0,h1⟩
theorem below_ok (c:List Int) (hc:c.length <= 1048576) (i h:Int) (hi:Cur c i) (n:Int):∃ x j g,spec_l1Below.f c i h n = some (x,j,g) /\ 0 <= x /\ (0 < n -> x < n) /\ (n <= 0 -> x = 0) /\ Cur c j:= by
 unfold spec_l1Below.f
 by_cases z:n <= 0
 ·rw [if_pos z]
  exact ⟨_,_,_,rfl,by omega,fun q => by omega,fun _ => rfl,hi⟩
 ·rw [if_neg z]
  have z0:¬ n = 0:= by omega
  by_cases z2:n <= 256
  ·rw [if_pos z2]
   obtain ⟨x,j,g,e,h0,h1,h2⟩:= byte_ok c hc i h hi
   rw [e]
   simp only [Option.bind_some,if_neg z0]
   refine ⟨_,_,_,rfl,?_,fun _ => ?_,fun q => by omega,h2⟩
   ·exact Int.tmod_nonneg _ h0
   ·rw [Int.tmod_eq_emod_of_nonneg h0]; exact Int.emod_lt_of_pos _ (by omega)
  ·rw [if_neg z2]
   obtain ⟨x,j,g,e,h0,h1,h2⟩:= byte_ok c hc i h hi
   rw [e]; simp only [Option.bind_some]
   obtain ⟨x2,j2,g2,e,h02,h12,h22⟩:= byte_ok c hc j g h2
   rw [e]; simp only [Option.bind_some]
   obtain ⟨x3,j3,g3,e,h03,h13,h23⟩:= byte_ok c hc j2 g2 h22
   rw [e]; simp only [Option.bind_some]
   obtain ⟨x4,j4,g4,e,h04,h14,h24⟩:= byte_ok c hc j3 g3 h23
   rw [e]; simp only [Option.bind_some,if_neg z0]
   have w:wrap64 ((wrap64 ((wrap64 ((wrap64 (x * 16777216)) + (wrap64 (x2 * 65536)))) + (wrap64 (x3 * 256)))) + x4) = x * 16777216 + x2 * 65536 + x3 * 256 + x4:= by unfold wrap64; omega
   rw [w]
   have hp:0 <= x * 16777216 + x2 * 65536 + x3 * 256 + x4:= by omega
   refine ⟨_,_,_,rfl,Int.tmod_nonneg _ hp,fun _ => ?_,fun q => by omega,h24⟩
   rw [Int.tmod_eq_emod_of_nonneg hp]; exact Int.emod_lt_of_pos _ (by omega)
theorem dec_step (u:Nat) (h:10 <= u):Lib.decDigits u = Lib.decDigits (u / 10) ++ [UInt8.ofNat (48 + u % 10)]:= by
 rw [Lib.decDigits,dif_neg (by omega)]
theorem dec_last (u:Nat) (h:u < 10):Lib.decDigits u = [UInt8.ofNat (48 + u)]:= by
 rw [Lib.decDigits,dif_pos h]
def decM (n:Int):ByteArray:= ⟨(Lib.itoa n).toArray⟩
def mk8 (t:List UInt8):ByteArray:= ⟨t.toArray⟩
theorem mk8_size (t:List UInt8):(mk8 t).size = t.length:= by simp [mk8,ByteArray.size]
def dvN:Int -> List UInt8 -> Int
 | n,[] => n
 | n,c :: r => dvN (if 48 <= (c.toNat:Int) /\ (c.toNat:Int) <= 57 then n * 10 + ((c.toNat:Int) - 48) else n) r
def dvK:Nat -> List UInt8 -> Nat
 | n,[] => n
 | n,c :: r => dvK (if 48 <= (c.toNat:Int) /\ (c.toNat:Int) <= 57 then n + 1 else n) r
def bneg:List UInt8 -> Bool
 | [] => false
 | c :: _ => (c.toNat:Int) == 45
def sg (b:Bool) (n:Int):Int:= if b = true then -n else n
theorem dvN_app (c:UInt8) (a:List UInt8):∀ n,dvN n (a ++ [c]) = dvN (dvN n a) [c]:= by
 induction a with
 | nil => intro n; rfl
 | cons x a ih => intro n; simp only [List.cons_append,dvN]; exact ih _
theorem dvK_app (c:UInt8) (a:List UInt8):∀ n,dvK n (a ++ [c]) = dvK (dvK n a) [c]:= by
 induction a with
 | nil => intro n; rfl
 | cons x a ih => intro n; simp only [List.cons_append,dvK]; exact ih _
theorem dv_lt (l:List UInt8):∀ (n:Int) (c:Nat),0 <= n -> n < 10 ^ c -> 0 <= dvN n l /\ dvN n l < 10 ^ dvK c l:= by
 induction l with
 | nil => intro n c h0 h1; exact ⟨h0,h1⟩
 | cons x l ih =>
  intro n c h0 h1
  simp only [dvN,dvK]
  split
  ·exact ih _ _ (by omega) (by rw [Int.pow_succ]; omega)
  ·exact ih _ _ h0 h1
theorem dig_nat (u:Nat) (h:u < 10):((UInt8.ofNat (48 + u)).toNat:Int) = 48 + (u:Int):= by
 rw [UInt8.toNat_ofNat_of_lt' (by show 48 + u < 256; omega)]; omega
theorem dv_digits (u:Nat):dvN 0 (Lib.decDigits u) = (u:Int) /\ ∀ c,dvK c (Lib.decDigits u) = c + (Lib.decDigits u).length:= by
 induction u using Nat.strongRecOn with
 | _ u ih =>
  by_cases h:u < 10
  ·rw [dec_last u h]
   have:= dig_nat u h
   refine ⟨?_,fun c => ?_⟩
   ·simp only [dvN,this]; rw [if_pos (by omega)]; omega
   ·simp only [dvK,this,List.length_cons,List.length_nil]; rw [if_pos (by omega)]
  ·obtain ⟨i1,i2⟩:= ih (u / 10) (by omega)
   have:= dig_nat (u % 10) (by omega)
   rw [dec_step u (by omega)]
   refine ⟨?_,fun c => ?_⟩
   ·rw [dvN_app,i1]
    simp only [dvN,this]; rw [if_pos (by omega)]; omega
   ·rw [dvK_app,i2]
    simp only [dvK,this,List.length_append,List.length_cons,List.length_nil]; rw [if_pos (by omega)]; omega
theorem dec_len1 (d:Nat):∀ u:Nat,u < 10 ^ (d + 1) -> (Lib.decDigits u).length <= d + 1:= by
 induction d with
 | zero => intro u h; rw [dec_last u (by simpa using h)]; simp
 | succ d ih =>
  intro u h
  by_cases c:u < 10
  ·rw [dec_last u c]; simp
  ·rw [dec_step u (by omega),List.length_append]
   have:= ih (u / 10) (by rw [Nat.pow_succ] at h; omega)
   simp
   omega
theorem dec_head (u:Nat):∃ c r,Lib.decDigits u = c :: r /\ 48 <= c.toNat /\ c.toNat <= 57:= by
 induction u using Nat.strongRecOn with
 | _ u ih =>
  by_cases h:u < 10
  ·rw [dec_last u h]
   have:= dig_nat u h
   exact ⟨_,_,rfl,by omega,by omega⟩
  ·obtain ⟨c,r,e,h1,h2⟩:= ih (u / 10) (by omega)
   rw [dec_step u (by omega),e]
   exact ⟨c,r ++ [UInt8.ofNat (48 + u % 10)],rfl,h1,h2⟩
theorem parse_app (c:UInt8) (a:List UInt8):∀ n m,Lib.parseUint10 n a = .ok m -> Lib.parseUint10 n (a ++ [c]) = Lib.parseUint10 m [c]:= by
 induction a with
 | nil => intro n m h; simp only [Lib.parseUint10] at h; injection h with h; subst h; rfl
 | cons x a ih =>
  intro n m h
  simp only [Lib.parseUint10,List.cons_append] at h ⊢
  split at h
  ·rename_i h1
   rw [if_pos h1]
   split at h
   ·cases h
   ·rename_i h2
    rw [if_neg h2]
    split at h
    ·cases h
    ·rename_i h3
     rw [if_neg h3]
     have:= ih _ _ h
     simpa only [Lib.parseUint10] using this
  ·cases h
theorem parse_digits (u:Nat) (h:u < 18446744073709551616):Lib.parseUint10 0 (Lib.decDigits u) = .ok u:= by
 induction u using Nat.strongRecOn with
 | _ u ih =>
  by_cases h1:u < 10
  ·rw [dec_last u h1]
   have:= dig_nat u h1
   simp only [Lib.parseUint10]
   rw [if_pos (by omega),if_neg (by omega),if_neg (by omega)]
   congr 1; omega
  ·have:= dig_nat (u % 10) (by omega)
   rw [dec_step u (by omega),parse_app _ _ _ _ (ih (u / 10) (by omega) (by omega))]
   simp only [Lib.parseUint10]
   rw [if_pos (by omega),if_neg (by omega),if_neg (by omega)]
   congr 1; omega
theorem atoi_itoa (m:Int) (h0:-9223372036854775808 <= m) (h1:m <= 9223372036854775807):Lib.atoiAll (Lib.itoa m) = .ok m:= by
 unfold Lib.itoa
 by_cases s:m < 0
 ·rw [if_pos s]
  obtain ⟨c,r,e,h2,h3⟩:= dec_head m.natAbs
  have hp:= parse_digits m.natAbs (by omega)
  have hne:Lib.decDigits m.natAbs ≠ []:= by rw [e]; simp
  simp only [Lib.atoiAll]
  rw [if_pos (by decide),Lib.parseMag,if_neg hne,hp]
  simp only []
  rw [if_neg (by simp),if_neg (by simp; omega)]
  congr 1
  rw [if_pos (by decide)]; omega
 ·rw [if_neg s]
  obtain ⟨c,r,e,h2,h3⟩:= dec_head m.toNat
  have hp:= parse_digits m.toNat (by omega)
  rw [e] at hp ⊢
  simp only [Lib.atoiAll]
  rw [if_neg (by omega),Lib.parseMag,if_neg (by simp),hp]
  simp only []
  rw [if_neg (by omega),if_neg (by omega)]
  congr 1
  rw [if_neg (by omega)]; omega
theorem itoa_len (m:Int) (h0:-999999999 <= m) (h1:m <= 999999999):(Lib.itoa m).length <= 10:= by
 unfold Lib.itoa
 split
 ·have:= dec_len1 8 m.natAbs (by omega)
  simp only [List.length_cons]; omega
 ·have:= dec_len1 8 m.toNat (by omega)
  omega
theorem itoa_dv (m:Int) (h0:-999999999 <= m) (h1:m <= 999999999):sg (bneg (Lib.itoa m)) (dvN 0 (Lib.itoa m)) = m /\ dvK 0 (Lib.itoa m) <= 9:= by
 unfold Lib.itoa
 split
 ·obtain ⟨d1,d2⟩:= dv_digits m.natAbs
  have:= dec_len1 8 m.natAbs (by omega)
  have z:¬ (48 <= (((45:UInt8).toNat:Nat):Int) /\ (((45:UInt8).toNat:Nat):Int) <= 57):= by decide
  refine ⟨?_,?_⟩
  ·simp only [bneg,dvN,if_neg z,d1,sg]
   rw [if_pos (by decide)]; omega
  ·simp only [dvK,if_neg z,d2]; omega
 ·obtain ⟨d1,d2⟩:= dv_digits m.toNat
  have:= dec_len1 8 m.toNat (by omega)
  obtain ⟨c,r,e,h2,h3⟩:= dec_head m.toNat
  refine ⟨?_,?_⟩
  ·rw [d1,e]
   have hb:bneg (c :: r) = false:= beq_eq_false_iff_ne.mpr (by omega)
   simp only [sg,hb,Bool.false_eq_true,if_false]; omega
  ·rw [d2]; omega
theorem tl_iff (a b:ByteArray):a.toList = b.toList ↔ a = b:= by
 rw [ByteArray.toList_eq,ByteArray.toList_eq]
 constructor
 ·intro h
  cases a; cases b
  congr 1
  exact Array.toList_inj.1 h
 ·intro h; rw [h]
def rdM (l:List UInt8):Int × Bool:= if dvK 0 (l.take 11) <= 9 /\ l.length <= 10 /\ decM (sg (bneg l) (dvN 0 (l.take 11))) = mk8 l then (sg (bneg l) (dvN 0 (l.take 11)),true) else (0,false)
theorem rdM_itoa (m:Int) (h0:-999999999 <= m) (h1:m <= 999999999):rdM (Lib.itoa m) = (m,true):= by
 have e:(Lib.itoa m).take 11 = Lib.itoa m:= List.take_of_length_le (by have:= itoa_len m h0 h1; omega)
 obtain ⟨d1,d2⟩:= itoa_dv m h0 h1
 unfold rdM
 rw [e,d1,if_pos ⟨d2,itoa_len m h0 h1,rfl⟩]
theorem rdM_no (l:List UInt8) (h:¬ ∃ m:Int,-999999999 <= m /\ m <= 999999999 /\ Lib.itoa m = l):rdM l = (0,false):= by
 unfold rdM
 rw [if_neg]
 rintro ⟨h1,h2,h3⟩
 obtain ⟨g0,g1⟩:= dv_lt (l.take 11) 0 0 (by omega) (by decide)
 have hp:(10:Int) ^ (dvK 0 (l.take 11)) <= 10 ^ 9:= by
  have:(10:Nat) ^ (dvK 0 (l.take 11)) <= 10 ^ 9:= Nat.pow_le_pow_right (by omega) h1
  exact_mod_cast this
 refine h ⟨sg (bneg l) (dvN 0 (l.take 11)),?_,?_,?_⟩
 ·unfold sg; split <;> omega
 ·unfold sg; split <;> omega
 ·have:= congrArg (fun b:ByteArray => b.data.toList) h3
  simpa [decM,mk8] using this
theorem impl_dec (n:Int) (h0:-9223372036854775808 <= n) (h1:n <= 9223372036854775807):impl_Dec.f n = some (decM n):= by
 unfold impl_Dec.f strconv_Itoa_34.f
 rw [if_pos h0,if_pos h1]
 rfl
theorem readdec_impl (l:List UInt8) (hl:l.length <= 281474976710656):impl_ReadDec.f (mk8 l) = some (rdM l):= by
 unfold impl_ReadDec.f
 rw [if_pos (by rw [mk8_size]; exact hl)]
 rw [show (mk8 l).data.toList = l from rfl]
 by_cases h:∃ m:Int,-999999999 <= m /\ m <= 999999999 /\ Lib.itoa m = l
 ·obtain ⟨m,h0,h1,rfl⟩:= h
  rw [rdM_itoa m h0 h1,atoi_itoa m (by omega) (by omega)]
  simp only [impl_dec m (by omega) (by omega),Option.bind_some]
  rw [if_pos (show (decM m).toList = (mk8 (Lib.itoa m)).toList from rfl)]
  unfold impl_in.f
  simp only [if_pos (show m >= -999999999 from h0),Option.bind_some,decide_eq_true h1,if_true]
 ·rw [rdM_no l h]
  cases e:Lib.atoiAll l with
  | ok v =>
   obtain ⟨b0,b1⟩:= Lib.atoiAll_bounds e
   simp only [impl_dec v b0 b1,Option.bind_some]
   by_cases c:(decM v).toList = (mk8 l).toList
   ·rw [if_pos c]
    unfold impl_in.f
    by_cases c0:v >= -999999999
    ·by_cases c1:v <= 999999999
     ·refine absurd ⟨v,c0,c1,?_⟩ h
      have:= congrArg (fun b:ByteArray => b.data.toList) ((tl_iff _ _).1 c)
      simpa [decM,mk8] using this
     ·simp [if_pos c0,c1]
    ·simp [if_neg c0]
   ·rw [if_neg c]
  | «syntax» => rfl
  | range => rfl
def lval:List Int -> Int
 | [] => 0
 | b :: l => b % 128 + 128 * lval l
def canon:List Int -> Bool
 | [] => false
 | [b] => decide (b < 128)
 | b :: c :: l => decide (b >= 128) && canon (c :: l) && !(decide ((c :: l) = [0]))
def enc:Nat -> Int -> List Int
 | 0,n => [n]
 | f + 1,n => if n >= 128 then (128 + n % 128) :: enc f (n / 128) else [n]
def bytes (l:List Int):Prop:= ∀ b ∈ l,0 <= b /\ b < 256
theorem lval_nonneg (l:List Int) (h:bytes l):0 <= lval l:= by
 induction l with
 | nil => simp [lval]
 | cons b l ih =>
  have:= ih (fun x hx => h x (List.mem_cons_of_mem _ hx))
  have:= h b List.mem_cons_self
  simp only [lval]; omega
theorem lval_lt (l:List Int) (h:bytes l):lval l < 128 ^ l.length:= by
 induction l with
 | nil => simp [lval]
 | cons b l ih =>
  have:= ih (fun x hx => h x (List.mem_cons_of_mem _ hx))
  have:= h b List.mem_cons_self
  simp only [lval,List.length_cons,Int.pow_succ]; omega
theorem canon_pos (l:List Int) (h:bytes l) (hc:canon l = true) (hz:l ≠ [0]):0 < lval l:= by
 induction l with
 | nil => simp [canon] at hc
 | cons b l ih =>
  have hb:= h b List.mem_cons_self
  have hl:bytes l:= fun x hx => h x (List.mem_cons_of_mem _ hx)
  have hn:= lval_nonneg l hl
  cases l with
  | nil =>
   simp [canon] at hc
   simp only [lval]
   have:b ≠ 0:= fun e => hz (by rw [e])
   omega
  | cons c l =>
   simp only [canon,Bool.and_eq_true,Bool.not_eq_true',decide_eq_true_eq,decide_eq_false_iff_not] at hc
   have:= ih hl hc.1.2 hc.2
   simp only [lval] at this ⊢
   omega
theorem enc_canon (l:List Int):∀ f,bytes l -> l ≠ [] -> l.length <= f + 1 -> (enc f (lval l) = l ↔ canon l = true):= by
 induction l with
 | nil => intro f _ h; exact absurd rfl h
 | cons b l ih =>
  intro f h _ hf
  have hb:= h b List.mem_cons_self
  have hl:bytes l:= fun x hx => h x (List.mem_cons_of_mem _ hx)
  have hn:= lval_nonneg l hl
  cases l with
  | nil =>
   have e:lval [b] = b % 128:= by simp [lval]
   have:enc f (b % 128) = [b % 128]:= by
    cases f with
    | zero => rfl
    | succ f => rw [enc,if_neg (by omega)]
   rw [e,this]
   simp only [canon,decide_eq_true_eq,List.cons.injEq,and_true]
   omega
  | cons c l =>
   obtain ⟨f,rfl⟩:∃ g,f = g + 1:= ⟨f - 1,by simp at hf; omega⟩
   have e:lval (b :: c :: l) = b % 128 + 128 * lval (c :: l):= rfl
   generalize hv:lval (c :: l) = v at e hn
   rw [e,enc]
   have ih':= ih f hl (by simp) (by simpa using hf)
   rw [hv] at ih'
   by_cases h0:v = 0
   ·rw [if_neg (by omega)]
    constructor
    ·intro he; simp at he
    ·intro hc
     exfalso
     simp only [canon,Bool.and_eq_true,Bool.not_eq_true',decide_eq_true_eq,decide_eq_false_iff_not] at hc
     have:= canon_pos (c :: l) hl hc.1.2 hc.2
     omega
   ·rw [if_pos (by omega)]
    have e1:(b % 128 + 128 * v) % 128 = b % 128:= by omega
    have e2:(b % 128 + 128 * v) / 128 = v:= by omega
    rw [e1,e2,List.cons.injEq,ih']
    simp only [canon,Bool.and_eq_true,Bool.not_eq_true',decide_eq_true_eq,decide_eq_false_iff_not]
    constructor
    ·intro ⟨h1,h2⟩
     refine ⟨⟨by omega,h2⟩,fun hz => ?_⟩
     rw [hz] at hv
     simp [lval] at hv
     omega
    ·intro ⟨⟨h1,h2⟩,_⟩
     exact ⟨by omega,h2⟩
theorem var_enc (m:Nat):∀ k (x0:Int) x3,0 <= x0 -> x0 < 562949953421312 -> x0 < 128 ^ (m + 1) -> m < k -> x3.length + m <= 1000 -> spec_Var.l0 k x0 x3 = some (strOfNums (x3 ++ enc m x0)):= by
 induction m with
 | zero =>
  intro k x0 x3 h0 hx hm hk hl
  obtain ⟨k,rfl⟩:∃ m,k = m + 1:= ⟨k - 1,by omega⟩
  simp only [spec_Var.l0]
  rw [if_neg (by omega),if_pos (by omega),enc,show x0 % 256 = x0 by omega]
 | succ m ih =>
  intro k x0 x3 h0 hx hm hk hl
  obtain ⟨k,rfl⟩:∃ m,k = m + 1:= ⟨k - 1,by omega⟩
  have hd:wrap64 (Int.tdiv x0 128) = x0 / 128:= by
   rw [Int.tdiv_eq_ediv_of_nonneg h0]; unfold wrap64; omega
  have hm2:wrap64 (128 + Int.tmod x0 128) % 256 = 128 + x0 % 128:= by
   rw [Int.tmod_eq_emod_of_nonneg h0]; unfold wrap64; omega
  simp only [spec_Var.l0,hd,hm2,enc]
  by_cases h:x0 >= 128
  ·have h3:x3.length < 140737488355328:= by omega
   rw [if_pos h,if_pos h3,if_pos h,ih k _ _ (by omega) (by omega) ?_ (by omega) (by simp; omega)]
   ·simp
   ·rw [Int.pow_succ] at hm
    exact Int.ediv_lt_of_lt_mul (by omega) hm
  ·rw [if_neg h,if_neg h,if_pos (by omega),show x0 % 256 = x0 by omega]
theorem var_f (k:Nat) (n:Int) (hk:7 < k) (h0:0 <= n) (h1:n <= 562949953421311):spec_Var.f k n = some (strOfNums (enc 6 n)):= by
 unfold spec_Var.f spec_l1In.f
 have:= var_enc 6 k n [] h0 (by omega) (by omega) (by omega) (by simp)
 simpa [h0,h1] using this
theorem enc_bytes (f:Nat):∀ n,0 <= n -> n < 128 ^ (f + 1) -> bytes (enc f n):= by
 induction f with
 | zero =>
  intro n h0 h1 b hb
  simp [enc] at hb
  omega
 | succ f ih =>
  intro n h0 h1 b hb
  rw [enc] at hb
  split at hb
  ·rcases List.mem_cons.1 hb with rfl | hb
   ·omega
   ·refine ih (n / 128) (by omega) ?_ b hb
    rw [Int.pow_succ] at h1
    exact Int.ediv_lt_of_lt_mul (by omega) h1
  ·simp at hb
   omega
theorem bytesOf_str (l:List Int) (h:bytes l):bytesOf (strOfNums l) = l:= by
 unfold bytesOf strOfNums
 simp only [List.map_map]
 rw [List.map_congr_left (g:= id)]
 ·simp
 ·intro b hb
  have:= h b hb
  simp only [Function.comp,UInt8.toNat_ofNat',id]
  omega
theorem bytesOf_list (a b:ByteArray):a.toList = b.toList ↔ bytesOf a = bytesOf b:= by
 rw [Go.ByteArray.toList_eq,Go.ByteArray.toList_eq]
 unfold bytesOf
 constructor
 ·intro h; rw [h]
 ·intro h
  exact List.map_inj_right (f:= fun b:UInt8 => (b.toNat:Int)) (fun x y hxy => UInt8.toNat_inj.1 (by have h2:(x.toNat:Int) = (y.toNat:Int):= hxy; exact_mod_cast h2)) |>.1 h
theorem bytesOf_extract (s:ByteArray) (k:Nat):bytesOf (s.extract 0 k) = (bytesOf s).take k:= by
 unfold bytesOf
 rw [ByteArray.data_extract,Array.toList_extract]
 simp [List.map_take,List.extract]
theorem bytesOf_bytes (s:ByteArray):bytes (bytesOf s):= by
 intro b hb
 unfold bytesOf at hb
 obtain ⟨c,_,rfl⟩:= List.mem_map.1 hb
 have:= UInt8.toNat_lt c
 omega
theorem bt_get (s:ByteArray) (i:Nat) (h:i < (bytesOf s).length):bt s (i:Int) = (bytesOf s)[i]:= by
 rw [<- rd_bytesOf]
 unfold rd
 simp [List.getD_eq_getElem?_getD,List.getElem?_eq_getElem h]
theorem canon_snoc (a:List Int) (b:Int):canon (a ++ [b]) = true ↔ (∀ x ∈ a,x >= 128) /\ b < 128 /\ (b = 0 -> a = []):= by
 induction a with
 | nil => simp [canon]
 | cons x a ih =>
  cases a with
  | nil =>
   simp [canon]
   omega
  | cons y a =>
   have e:canon (x :: y :: a ++ [b]) = (decide (x >= 128) && canon ((y :: a) ++ [b]) && !(decide ((y :: a) ++ [b] = [0]))):= rfl
   rw [e]
   simp only [Bool.and_eq_true,ih,decide_eq_true_eq,Bool.not_eq_true',decide_eq_false_iff_not,List.mem_cons]
   constructor
   ·rintro ⟨⟨h1,h2,h3,h4⟩,_⟩
    refine ⟨?_,h3,fun h => by have:= h4 h; simp at this⟩
    rintro z (rfl | hz)
    ·exact h1
    ·exact h2 z (by simpa using hz)
   ·rintro ⟨h1,h2,h3⟩
    refine ⟨⟨h1 x (Or.inl rfl),fun z hz => h1 z (Or.inr (by simpa using hz)),h2,fun h => by have:= h3 h; simp at this⟩,by simp⟩
theorem lval_snoc (a:List Int) (b:Int):lval (a ++ [b]) = lval a + b % 128 * 128 ^ a.length:= by
 induction a with
 | nil => simp [lval]
 | cons x a ih =>
  simp only [List.cons_append,lval,ih,List.length_cons,Int.pow_succ]
  rw [Int.mul_add,Int.mul_comm (128 ^ a.length) 128,<- Int.mul_assoc,<- Int.mul_assoc,Int.mul_comm 128 (b % 128)]
  omega
theorem shl_sept (x:Int) (i:Nat) (h0:0 <= x) (hx:x < 128) (hi:i < 7):shl .i64 x (7 * (i:Int)) = x * 128 ^ i:= by
 unfold shl
 have e:min (7 * (i:Int)).toNat IntKind.i64.bits = 7 * i:= by
  simp only [IntKind.bits]; omega
 rw [e,Int.pow_mul,Go.IntKind.wrap_i64,show ((2:Int) ^ 7) = 128 from rfl]
 have:i = 0 \/ i = 1 \/ i = 2 \/ i = 3 \/ i = 4 \/ i = 5 \/ i = 6:= by omega
 rcases this with rfl | rfl | rfl | rfl | rfl | rfl | rfl <;> omega
theorem pick_ok (c:List Int) (hc:c.length <= 1048576) (i h:Int) (hi:Cur c i) (l:List Int) (hl:0 < l.length) (P:Int -> Prop) (hP:∀ x ∈ l,P x):∃ x j g,spec_l1PickInt.f c i h l = some (x,j,g) /\ P x /\ Cur c j:= by
 unfold spec_l1PickInt.f
 obtain ⟨x,j,g,e,h0,h1,_,h2⟩:= below_ok c hc i h hi (l.length:Int)
 rw [e]
 simp only [Option.bind_some,if_pos h0,if_pos (h1 (by omega))]
 refine ⟨_,_,_,rfl,hP _ ?_,h2⟩
 have:= h1 (by omega)
 unfold rd
 rw [List.getD_eq_getElem?_getD,List.getElem?_eq_getElem (by omega)]
 exact List.getElem_mem _
def I64 (n:Int):Prop:= -9223372036854775808 <= n /\ n <= 9223372036854775807
theorem num_ok (c:List Int) (hc:c.length <= 1048576) (i h:Int) (hi:Cur c i):∃ x j g,spec_l1Num.f c i h = some (x,j,g) /\ I64 x /\ Cur c j:= by
 unfold spec_l1Num.f
 obtain ⟨x,j,g,e,h0,h1,_,h2⟩:= below_ok c hc i h hi 8
 rw [e]; simp only [Option.bind_some]
 split
 ·obtain ⟨x2,j2,g2,e,h3,h4⟩:= pick_ok c hc j g h2 ([(-1),0,127,128,255,256,16383,16384,65535,65536,562949953421311,562949953421312,999999999,1000000000,(-999999999),9223372036854775807,(-9223372036854775808)]:List Int) (by decide) I64 (by unfold I64; decide)
  rw [e]; simp only [Option.bind_some]
  exact ⟨_,_,_,rfl,h3,h4⟩
 ·split
  ·obtain ⟨x2,j2,g2,e,h3,h4,_,h5⟩:= below_ok c hc j g h2 1000000000
   rw [e]; simp only [Option.bind_some]
   obtain ⟨x3,j3,g3,e,h33,h43,_,h53⟩:= below_ok c hc j2 g2 h5 1000000000
   rw [e]; simp only [Option.bind_some]
   exact ⟨_,_,_,rfl,by unfold I64 wrap64; omega,h53⟩
  ·split
   ·obtain ⟨x2,j2,g2,e,h3,h4,_,h5⟩:= below_ok c hc j g h2 100000
    rw [e]; simp only [Option.bind_some]
    exact ⟨_,_,_,rfl,by unfold I64 wrap64; omega,h5⟩
   ·obtain ⟨x2,j2,g2,e,h3,h4,_,h5⟩:= below_ok c hc j g h2 70000
    rw [e]; simp only [Option.bind_some]
    have:= h4 (by omega)
    exact ⟨_,_,_,rfl,by unfold I64; omega,h5⟩
theorem str_size (l:List Int):(strOfNums l).size = l.length:= by
 unfold strOfNums
 simp [ByteArray.size]
theorem text_loop (c:List Int) (hc:c.length <= 1048576) (st:Int) (n:Nat):∀ (x5:List Int) (i h:Int),Cur c i -> x5.length + n <= 1000 -> ∃ s j g,Ev (fun k => spec_l1Text.l0 k x5 st (n:Int) c i h) (s,j,g) /\ s.size = x5.length + n /\ Cur c j:= by
 induction n with
 | zero =>
  intro x5 i h hi hl
  refine ⟨strOfNums x5,i,h,ev_step ?_,by rw [str_size]; omega,hi⟩
  simp only [spec_l1Text.l0,if_neg (show ¬ ((0:Nat):Int) > 0 by decide)]
  exact ev_const _
 | succ n ih =>
  intro x5 i h hi hl
  obtain ⟨x,j,g,e,h0,h1,h2⟩:= byte_ok c hc i h hi
  have w:wrap64 (((n + 1:Nat):Int) - 1) = (n:Int):= by unfold wrap64; omega
  have cl:x5.length < 140737488355328:= by omega
  have key:∀ b:Int,∃ s j' g',Ev (fun k => spec_l1Text.l0 k (x5 ++ [b]) st (n:Int) c j g) (s,j',g') /\ s.size = x5.length + (n + 1) /\ Cur c j':= fun b => by
   obtain ⟨s,j',g',q1,q2,q3⟩:= ih (x5 ++ [b]) j g h2 (by simp; omega)
   exact ⟨s,j',g',q1,by rw [q2,List.length_append,List.length_singleton]; omega,q3⟩
  have cn:((n + 1:Nat):Int) > 0:= by omega
  by_cases s1:st = 1
  ·have s2:¬ st = 2:= by omega
   obtain ⟨s,j',g',q1,q2,q3⟩:= key ((Int.tmod x 2) % 256)
   refine ⟨s,j',g',ev_step ?_,q2,q3⟩
   simp only [spec_l1Text.l0,if_pos cn,e,Option.bind_some,if_pos s1,if_neg s2,if_pos cl,w]
   exact q1
  ·by_cases s2:st = 2
   ·obtain ⟨s,j',g',q1,q2,q3⟩:= key ((wrap64 (97 + (Int.tmod x 4))) % 256)
    refine ⟨s,j',g',ev_step ?_,q2,q3⟩
    simp only [spec_l1Text.l0,if_pos cn,e,Option.bind_some,if_neg s1,if_pos s2,if_pos cl,w]
    exact q1
   ·obtain ⟨s,j',g',q1,q2,q3⟩:= key (x % 256)
    refine ⟨s,j',g',ev_step ?_,q2,q3⟩
    simp only [spec_l1Text.l0,if_pos cn,e,Option.bind_some,if_neg s1,if_neg s2,if_pos cl,w]
    exact q1
theorem text_ok (c:List Int) (hc:c.length <= 1048576) (i h:Int) (hi:Cur c i) (most:Int) (h0:0 <= most) (h1:most <= 40):∃ s j g,Ev (fun k => spec_l1Text.f k c i h most) (s,j,g) /\ s.size <= 40 /\ Cur c j:= by
 unfold spec_l1Text.f
 obtain ⟨x,j,g,e,q0,_,_,q2⟩:= below_ok c hc i h hi 4
 have w:wrap64 (most + 1) = most + 1:= by unfold wrap64; omega
 obtain ⟨x2,j2,g2,e2,q02,q12,_,q22⟩:= below_ok c hc j g q2 (most + 1)
 simp only [e,Option.bind_some,w,e2]
 obtain ⟨n,rfl⟩:∃ n:Nat,x2 = n:= ⟨x2.toNat,by omega⟩
 have:= q12 (by omega)
 obtain ⟨s,j3,g3,r1,r2,r3⟩:= text_loop c hc x n [] j2 g2 q22 (by simp; omega)
 exact ⟨s,j3,g3,r1,by rw [r2,List.length_nil]; omega,r3⟩
theorem draw_var (c:List Int) (hc:c.length <= 1048576):∃ n,Ev (fun k => spec_DrawVar.f k c) n /\ I64 n:= by
 obtain ⟨h,e⟩:= new_ev c hc
 obtain ⟨x,j,g,e2,q,_⟩:= num_ok c hc 0 h (cur0 c)
 refine ⟨x,?_,q⟩
 unfold spec_DrawVar.f
 refine ev_bind e ?_
 simp only [e2,Option.bind_some]
 exact ev_const _
theorem draw_hex (c:List Int) (hc:c.length <= 1048576):∃ s,Ev (fun k => spec_DrawHex.f k c) s /\ s.size <= 40:= by
 obtain ⟨h,e⟩:= new_ev c hc
 obtain ⟨s,j,g,e2,q,_⟩:= text_ok c hc 0 h (cur0 c) 40 (by omega) (by omega)
 refine ⟨s,?_,q⟩
 unfold spec_DrawHex.f
 exact ev_bind e (ev_bind e2 (ev_const _))
theorem enc_len (f:Nat):∀ n,(enc f n).length <= f + 1 /\ 1 <= (enc f n).length:= by
 induction f with
 | zero => intro n; simp [enc]
 | succ f ih =>
  intro n
  have:= ih (n / 128)
  rw [enc]; split <;> simp; omega
theorem in_valS (a b c:Int):spec_l1In.f a b c = some (decide (a >= b /\ a <= c)):= by
 unfold spec_l1In.f
 by_cases h:a >= b
 ·simp [h]
 ·simp [h]
theorem in_val1 (a b c:Int):impl_in.f a b c = some (decide (a >= b /\ a <= c)):= in_valS a b c
theorem spec_var_ev (n:Int):∃ s,Ev (fun k => spec_Var.f k n) s /\ s.size <= 7:= by
 by_cases h0:0 <= n /\ n <= 562949953421311
 ·exact ⟨_,ev_at 8 fun k hk => var_f k n (by omega) h0.1 h0.2,by rw [str_size]; exact (enc_len 6 n).1⟩
 ·refine ⟨(⟨#[]⟩:ByteArray),ev_at 0 fun k _ => ?_,by decide⟩
  unfold spec_Var.f
  rw [in_valS]
  rw [decide_eq_false (by omega)]
  rfl
theorem once_ok (c:List Int) (hc:c.length <= 1048576) (i h:Int) (hi:Cur c i) (n:Int):∃ x j g,spec_l1Once.f c i h n = some (x,j,g) /\ Cur c j:= by
 unfold spec_l1Once.f
 obtain ⟨x,j,g,e,_,_,_,q⟩:= below_ok c hc i h hi n
 rw [e]
 exact ⟨_,_,_,rfl,q⟩
theorem ext_size (s:ByteArray) (i j:Nat):(s.extract i j).size <= s.size:= by
 rw [ByteArray.size_extract]; omega
theorem spoil_ok (c:List Int) (hc:c.length <= 1048576) (i h:Int) (hi:Cur c i) (s:ByteArray) (hs:s.size <= 1000):∃ t j g,Ev (fun k => spec_l1Spoil.f k c i h s) (t,j,g) /\ t.size <= 2001:= by
 unfold spec_l1Spoil.f
 by_cases z:(s.size:Int) = 0
 ·obtain ⟨t,j,g,e,q,_⟩:= text_ok c hc i h hi 3 (by omega) (by omega)
  simp only [if_pos z]
  exact ⟨t,j,g,ev_bind e (ev_const _),by omega⟩
 ·simp only [if_neg z]
  obtain ⟨x,j,g,e,q0,q1,_,q2⟩:= below_ok c hc i h hi (s.size:Int)
  obtain ⟨y,j2,g2,e2,_,_,_,q22⟩:= below_ok c hc j g q2 4
  have hx:= q1 (by omega)
  have w:wrap64 (x + 1) = x + 1:= by unfold wrap64; omega
  have x1:x <= (s.size:Int):= by omega
  have x2:0 <= x + 1:= by omega
  have x3:x + 1 <= (s.size:Int):= by omega
  have a1:= ext_size s 0 x.toNat
  have a2:= ext_size s x.toNat s.size
  have a3:= ext_size s (x + 1).toNat s.size
  have one:∀ b:Int,(strOfNums [b]).size = 1:= fun b => rfl
  obtain ⟨b,j3,g3,e3,_,_,q33⟩:= byte_ok c hc j2 g2 q22
  obtain ⟨b4,j4,g4,e4,_,_,_,q34⟩:= below_ok c hc j2 g2 q22 255
  have c1:(s.extract 0 x.toNat).size + (s.extract (x + 1).toNat s.size).size <= 9223372036854775807:= by omega
  have c2:∀ b:Int,(s.extract 0 x.toNat).size + (strOfNums [b]).size <= 9223372036854775807:= fun b => by rw [one]; omega
  have c3:∀ b:Int,((s.extract 0 x.toNat) ++ (strOfNums [b])).size + (s.extract x.toNat s.size).size <= 9223372036854775807:= fun b => by rw [ByteArray.size_append,one]; omega
  have c4:∀ b:Int,((s.extract 0 x.toNat) ++ (strOfNums [b])).size + (s.extract (x + 1).toNat s.size).size <= 9223372036854775807:= fun b => by rw [ByteArray.size_append,one]; omega
  simp only [e,e2,Option.bind_some,w]
  by_cases y0:y = 0
  ·simp only [if_pos y0,if_pos q0,if_pos x1,if_pos x2,if_pos x3,if_pos c1]
   exact ⟨_,_,_,ev_const _,by rw [ByteArray.size_append]; omega⟩
  ·by_cases y1:y = 1
   ·simp only [if_neg y0,if_pos y1,if_pos q0,if_pos x1,e3,Option.bind_some,if_pos (c2 _),if_pos (c3 _)]
    exact ⟨_,_,_,ev_const _,by rw [ByteArray.size_append,ByteArray.size_append,one]; omega⟩
   ·by_cases y2:y = 2
    ·simp only [if_neg y0,if_neg y1,if_pos y2,if_pos q0,if_pos x1]
     exact ⟨_,_,_,ev_const _,by omega⟩
    ·simp only [if_neg y0,if_neg y1,if_neg y2,if_pos q0,if_pos x1,if_pos hx,e4,Option.bind_some,if_pos (c2 _),if_pos x2,if_pos x3,if_pos (c4 _)]
     exact ⟨_,_,_,ev_const _,by rw [ByteArray.size_append,ByteArray.size_append,one]; omega⟩
theorem draw_readvar (c:List Int) (hc:c.length <= 1048576):∃ s,Ev (fun k => spec_DrawReadVar.f k c) s /\ s.size <= 3000:= by
 obtain ⟨h,e⟩:= new_ev c hc
 obtain ⟨x,j,g,e2,_,q⟩:= num_ok c hc 0 h (cur0 c)
 obtain ⟨v,e3,hv⟩:= spec_var_ev x
 obtain ⟨t,j2,g2,e4,ht,q2⟩:= text_ok c hc j g q 4 (by omega) (by omega)
 obtain ⟨b,j3,g3,e5,q3⟩:= once_ok c hc j2 g2 q2 4
 have hz:(v ++ t).size <= 100:= by rw [ByteArray.size_append]; omega
 obtain ⟨u,j4,g4,e6,hu⟩:= spoil_ok c hc j3 g3 q3 (v ++ t) (by omega)
 unfold spec_DrawReadVar.f
 cases b
 ·refine ⟨v ++ t,ev_bind e ?_,by omega⟩
  simp only [e2,Option.bind_some]
  refine ev_bind e3 (ev_bind e4 ?_)
  simp only [if_pos (show v.size + t.size <= 9223372036854775807 by omega),e5,Option.bind_some,Bool.false_eq_true,if_false]
  exact ev_const _
 ·refine ⟨u,ev_bind e ?_,by omega⟩
  simp only [e2,Option.bind_some]
  refine ev_bind e3 (ev_bind e4 ?_)
  simp only [if_pos (show v.size + t.size <= 9223372036854775807 by omega),e5,Option.bind_some,if_true]
  exact ev_bind e6 (ev_const _)
theorem lval_enc (f:Nat):∀ n,0 <= n -> n < 128 ^ (f + 1) -> lval (enc f n) = n:= by
 induction f with
 | zero => intro n h0 h1; simp [enc,lval]; omega
 | succ f ih =>
  intro n h0 h1
  rw [enc]
  split
  ·rw [lval,ih (n / 128) (by omega) (by rw [Int.pow_succ] at h1; exact Int.ediv_lt_of_lt_mul (by omega) h1)]
   omega
  ·simp [lval]; omega
theorem enc_can (n:Int) (h0:0 <= n) (h1:n <= 562949953421311):canon (enc 6 n) = true:= by
 have hb:= enc_bytes 6 n h0 (by omega)
 have:= enc_canon (enc 6 n) 6 hb (by have:= (enc_len 6 n).2; intro e; rw [e] at this; simp at this) (enc_len 6 n).1
 rw [lval_enc 6 n h0 (by omega)] at this
 exact this.1 rfl
theorem ivar_enc (m:Nat):∀ k (x0:Int) x3,0 <= x0 -> x0 < 562949953421312 -> x0 < 128 ^ (m + 1) -> m < k -> x3.length + m <= 1000 -> impl_Var.l0 k x0 x3 = some (strOfNums (x3 ++ enc m x0)):= by
 induction m with
 | zero =>
  intro k x0 x3 h0 hx hm hk hl
  obtain ⟨k,rfl⟩:∃ m,k = m + 1:= ⟨k - 1,by omega⟩
  simp only [impl_Var.l0]
  rw [if_neg (by omega),if_pos (by omega),enc,show x0 % 256 = x0 by omega]
 | succ m ih =>
  intro k x0 x3 h0 hx hm hk hl
  obtain ⟨k,rfl⟩:∃ m,k = m + 1:= ⟨k - 1,by omega⟩
  have hd:wrap64 (Int.tdiv x0 128) = x0 / 128:= by
   rw [Int.tdiv_eq_ediv_of_nonneg h0]; unfold wrap64; omega
  have hm2:wrap64 (Int.tmod x0 128 + 128) % 256 = 128 + x0 % 128:= by
   rw [Int.tmod_eq_emod_of_nonneg h0]; unfold wrap64; omega
  simp only [impl_Var.l0,hd,hm2,enc]
  by_cases h:x0 >= 128
  ·have h3:x3.length < 140737488355328:= by omega
   rw [if_pos (by omega),if_pos h3,if_pos h,ih k _ _ (by omega) (by omega) ?_ (by omega) (by simp; omega)]
   ·simp
   ·rw [Int.pow_succ] at hm
    exact Int.ediv_lt_of_lt_mul (by omega) hm
  ·rw [if_neg (by omega),if_neg h,if_pos (by omega),show x0 % 256 = x0 by omega]
def varM (n:Int):ByteArray:= if 0 <= n /\ n <= 562949953421311 then strOfNums (enc 6 n) else (⟨#[]⟩:ByteArray)
theorem var_ev (n:Int):Ev (fun k => impl_Var.f k n) (varM n):= by
 refine ev_at 8 fun k hk => ?_
 unfold impl_Var.f varM
 rw [in_val1]
 by_cases h:0 <= n /\ n <= 562949953421311
 ·rw [decide_eq_true (show n >= 0 /\ n <= 562949953421311 from h),if_pos h]
  simp only [Option.bind_some,if_true]
  exact ivar_enc 6 k n [] h.1 (by omega) (by omega) (by omega) (by simp)
 ·rw [decide_eq_false (show ¬ (n >= 0 /\ n <= 562949953421311) from h),if_neg h]
  rfl
def rvM:Nat -> List Int -> List Int -> Int × Int
 | 0,_,_ => (0,0)
 | _ + 1,_,[] => (0,0)
 | f + 1,a,b :: r => if b >= 128 then rvM f (a ++ [b]) r else if b = 0 /\ a ≠ [] then (0,0) else (lval (a ++ [b]),(a.length:Int) + 1)
theorem rv_loop (s:ByteArray) (hs:s.size <= 1048576) (f:Nat):∀ (a r:List Int),bytesOf s = a ++ r -> a.length + f = 7 -> Ev (fun k => impl_ReadVar.l0 k s (lval a) (a.length:Int)) (rvM f a r):= by
 have hlen:= bytesOf_length s
 have hb:= bytesOf_bytes s
 induction f with
 | zero =>
  intro a r h hf
  apply ev_step
  simp only [impl_ReadVar.l0,if_neg (show ¬ (a.length:Int) < 7 by omega)]
  apply ev_step
  simp only [impl_ReadVar.j1,Bool.false_eq_true,if_false,rvM]
  exact ev_const _
 | succ f ih =>
  intro a r h hf
  have h7:(a.length:Int) < 7:= by omega
  cases r with
  | nil =>
   have e:s.size = a.length:= by rw [<- hlen,h]; simp
   apply ev_step
   simp only [impl_ReadVar.l0,if_pos h7,decide_eq_false (show ¬ (a.length:Int) < (s.size:Int) by omega)]
   apply ev_step
   simp only [impl_ReadVar.j1,Bool.false_eq_true,if_false,rvM]
   exact ev_const _
  | cons b r =>
   have e:s.size = a.length + (r.length + 1):= by rw [<- hlen,h]; simp
   have hl:(a.length:Int) < (s.size:Int):= by omega
   have hbt:bt s (a.length:Int) = b:= by
    rw [bt_get s a.length (by omega)]
    simp [h]
   have hbr:= bt_range s (a.length:Int)
   rw [hbt] at hbr
   have ha:bytes a:= fun x hx => hb x (by rw [h]; exact List.mem_append_left _ hx)
   have hv0:= lval_nonneg a ha
   have hv1:= lval_lt a ha
   have w1:wrap64 b = b:= by unfold wrap64; omega
   have w7:wrap64 (7 * (a.length:Int)) = 7 * (a.length:Int):= by unfold wrap64; omega
   have wn:wrap64 ((a.length:Int) + 1) = (((a ++ [b]).length:Nat):Int):= by rw [wrap_next a.length (by omega)]; simp
   have hm:Int.tmod b 128 = b % 128:= Int.tmod_eq_emod_of_nonneg (by omega)
   have hs2:shl .i64 (b % 128) (7 * (a.length:Int)) = b % 128 * 128 ^ a.length:= shl_sept _ _ (by omega) (by omega) (by omega)
   have hp:(128:Int) ^ a.length <= 128 ^ 6:= by
    have:(128:Nat) ^ a.length <= 128 ^ 6:= Nat.pow_le_pow_right (by omega) (by omega)
    exact_mod_cast this
   have hp0:0 <= (128:Int) ^ a.length:= by
    have:0 <= ((128 ^ a.length:Nat):Int):= Int.natCast_nonneg _
    exact_mod_cast this
   have hmul:b % 128 * 128 ^ a.length <= 127 * 128 ^ a.length:= Int.mul_le_mul_of_nonneg_right (by omega) hp0
   have hmul0:0 <= b % 128 * 128 ^ a.length:= Int.mul_nonneg (by omega) hp0
   have wv:wrap64 (lval a + b % 128 * 128 ^ a.length) = lval (a ++ [b]):= by
    rw [lval_snoc]
    generalize b % 128 * 128 ^ a.length = z at *
    generalize (128:Int) ^ a.length = y at *
    unfold wrap64; omega
   apply ev_step
   simp only [impl_ReadVar.l0,if_pos h7,decide_eq_true hl]
   apply ev_step
   simp only [impl_ReadVar.j1,if_true,if_pos (show 0 <= (a.length:Int) by omega),if_pos hl,hbt,w1,w7,if_pos (show 0 <= 7 * (a.length:Int) by omega),hm,hs2,wv,wn]
   rw [rvM]
   by_cases g:b >= 128
   ·simp only [if_pos g]
    exact ih (a ++ [b]) r (by rw [h]; simp) (by simp; omega)
   ·simp only [if_neg g]
    by_cases z:b = 0
    ·by_cases y:(a.length:Int) > 0
     ·have:a ≠ []:= fun q => by rw [q] at y; simp at y
      simp only [if_pos z,if_pos y,if_pos (show b = 0 /\ a ≠ [] from ⟨z,this⟩)]
      exact ev_const _
     ·have:a = []:= List.eq_nil_of_length_eq_zero (by omega)
      simp only [if_pos z,if_neg y,if_neg (show ¬ (b = 0 /\ a ≠ []) from fun q => q.2 this)]
      exact ev_eq (ev_const _) (by simp)
    ·simp only [if_neg z,if_neg (show ¬ (b = 0 /\ a ≠ []) from fun q => z q.1)]
     exact ev_eq (ev_const _) (by simp)
theorem rv_tells (f:Nat):∀ (a r:List Int),(∀ x ∈ a,x >= 128) -> a.length + f = 7 -> (rvM f a r).2 = 0 \/ (0 < (rvM f a r).2 /\ (rvM f a r).2 <= ((a ++ r).length:Int) /\ (rvM f a r).2 <= 7 /\ canon ((a ++ r).take (rvM f a r).2.toNat) = true /\ (rvM f a r).1 = lval ((a ++ r).take (rvM f a r).2.toNat)):= by
 induction f with
 | zero => intro a r _ _; exact Or.inl rfl
 | succ f ih =>
  intro a r ha hf
  cases r with
  | nil => exact Or.inl rfl
  | cons b r =>
   rw [rvM]
   by_cases g:b >= 128
   ·rw [if_pos g]
    have:= ih (a ++ [b]) r (fun x hx => by
     rcases List.mem_append.1 hx with q | q
     ·exact ha x q
     ·simp at q; omega) (by simp; omega)
    simpa using this
   ·rw [if_neg g]
    by_cases z:b = 0 /\ a ≠ []
    ·rw [if_pos z]; exact Or.inl rfl
    ·rw [if_neg z]
     have e:(a ++ b :: r).take (((a.length:Int) + 1)).toNat = a ++ [b]:= by
      rw [show (((a.length:Int) + 1)).toNat = (a ++ [b]).length by rw [List.length_append,List.length_singleton]; omega,show a ++ b :: r = (a ++ [b]) ++ r by simp,List.take_left]
     right
     simp only
     refine ⟨by omega,by simp; omega,by omega,?_,?_⟩
     ·rw [e,canon_snoc]
      exact ⟨ha,by omega,fun q => by
       by_cases y:a = []
       ·exact y
       ·exact absurd ⟨q,y⟩ z⟩
     ·rw [e]
theorem rv_reads (e:List Int):∀ (f:Nat) (a r:List Int),canon (a ++ e) = true -> e ≠ [] -> (∀ x ∈ a,x >= 128) -> e.length <= f -> rvM f a (e ++ r) = (lval (a ++ e),((a ++ e).length:Int)):= by
 induction e with
 | nil => intro f a r _ h; exact absurd rfl h
 | cons b e ih =>
  intro f a r hc _ ha hf
  obtain ⟨f,rfl⟩:∃ g,f = g + 1:= ⟨f - 1,by simp at hf; omega⟩
  rw [List.cons_append,rvM]
  cases e with
  | nil =>
   rw [canon_snoc] at hc
   rw [if_neg (by omega),if_neg (fun q => q.2 (hc.2.2 q.1))]
   simp
  | cons b2 e =>
   have hb:b >= 128:= by
    have e2:a ++ b :: b2 :: e = (a ++ b :: (b2 :: e).dropLast) ++ [(b2 :: e).getLast (by simp)]:= by
     rw [List.append_assoc,List.cons_append,List.dropLast_concat_getLast]
    rw [e2,canon_snoc] at hc
    exact hc.1 b (by simp)
   rw [if_pos hb]
   have:= ih f (a ++ [b]) r (by simpa using hc) (by simp) (fun x hx => by
    rcases List.mem_append.1 hx with q | q
    ·exact ha x q
    ·simp at q; omega) (by simp at hf ⊢; omega)
   simpa using this
theorem readvar_ev (s:ByteArray) (hs:s.size <= 1048576):Ev (fun k => impl_ReadVar.f k s) (rvM 7 [] (bytesOf s)):= by
 unfold impl_ReadVar.f
 exact rv_loop s hs 7 [] (bytesOf s) rfl (by simp)
def be:Nat -> Int -> List Int
 | 0,_ => []
 | w + 1,n => be w (n / 256) ++ [n % 256]
theorem be_front (w:Nat):∀ n:Int,0 <= n -> be (w + 1) n = [n / 256 ^ w % 256] ++ be w n:= by
 induction w with
 | zero => intro n _; simp [be]
 | succ w ih =>
  intro n hn
  rw [be,ih (n / 256) (by omega),be]
  have:n / 256 / 256 ^ w = n / 256 ^ (w + 1):= by
   rw [Int.ediv_ediv_of_nonneg (by omega),Int.pow_succ,Int.mul_comm]
  rw [this]
  simp
theorem shr_bytes (n:Int) (m:Nat) (hm:m <= 7):shr .i64 n (8 * (m:Int)) = n / 256 ^ m:= by
 unfold shr
 have:min (8 * (m:Int)).toNat IntKind.i64.bits = 8 * m:= by
  simp only [IntKind.bits]; omega
 rw [this,Int.pow_mul]
 rfl
theorem fixed_impl (d:Nat):∀ k (n:Int) (l:List Int),0 <= n -> d <= 7 -> l.length + d <= 100 -> d < k -> impl_Fixed.l0 k n l ((d:Int) - 1) = some (strOfNums (l ++ be d n)):= by
 induction d with
 | zero =>
  intro k n l hn hd hl hk
  obtain ⟨k,rfl⟩:∃ m,k = m + 1:= ⟨k - 1,by omega⟩
  simp only [impl_Fixed.l0]
  rw [if_neg (by omega)]
  simp [be]
 | succ d ih =>
  intro k n l hn hd hl hk
  obtain ⟨k,rfl⟩:∃ m,k = m + 1:= ⟨k - 1,by omega⟩
  have e0:((d + 1:Nat):Int) - 1 = d:= by omega
  have e1:wrap64 (8 * (d:Int)) = 8 * (d:Int):= by unfold wrap64; omega
  have e2:wrap64 ((d:Int) - 1) = (d:Int) - 1:= by unfold wrap64; omega
  simp only [impl_Fixed.l0,e0,e1,e2,shr_bytes n d (by omega)]
  rw [if_pos (by omega),if_pos (by omega),if_pos (by omega),ih k n _ hn (by omega) (by simp; omega) (by omega),be_front d n hn]
  simp
theorem or_byte (x b:Int) (h0:0 <= x) (h:x < 281474976710656) (hb0:0 <= b) (hb:b < 256):Go.bits .or .i64 (x * 256) b = x * 256 + b :=
 Go.bits_join .i64 63 (by decide) (fun n h1 h2 => by rw [Go.IntKind.wrap_i64]; omega) 8 _ _ (by omega) (by omega) (by omega) hb0 (by omega) (by omega)
theorem wrap_mul (x:Int) (h0:0 <= x) (h:x < 281474976710656):wrap64 (x * 256) = x * 256:= by unfold wrap64; omega
theorem pow_six (i:Nat) (x:Int) (hi:i <= 6) (hx:x < 256 ^ i):x < 281474976710656:= by
 have:i = 0 \/ i = 1 \/ i = 2 \/ i = 3 \/ i = 4 \/ i = 5 \/ i = 6:= by omega
 rcases this with rfl | rfl | rfl | rfl | rfl | rfl | rfl <;> omega
theorem be_len (w:Nat):∀ n,(be w n).length = w:= by
 induction w with
 | zero => intro n; rfl
 | succ w ih => intro n; rw [be,List.length_append,ih]; rfl
theorem be_bytes (w:Nat):∀ n,bytes (be w n):= by
 induction w with
 | zero => intro n b hb; simp [be] at hb
 | succ w ih =>
  intro n b hb
  rw [be] at hb
  rcases List.mem_append.1 hb with q | q
  ·exact ih _ b q
  ·simp at q; omega
def fixM (n:Int):ByteArray:= if 0 <= n /\ n < 72057594037927936 then strOfNums (be 7 n) else (⟨#[]⟩:ByteArray)
theorem fixed_ev (n:Int):Ev (fun k => impl_Fixed.f k n 7) (fixM n):= by
 unfold impl_Fixed.f fixM
 rw [in_val1,decide_eq_true (show (7:Int) >= 1 /\ (7:Int) <= 7 by decide)]
 have w8:wrap64 (8 * 7) = 56:= by unfold wrap64; omega
 have w6:wrap64 (7 - 1) = 6:= by unfold wrap64; omega
 have ws:wrap64 (shl .i64 1 56 - 1) = 72057594037927935:= by decide +kernel
 simp only [Option.bind_some,if_true,w8,if_pos (show (0:Int) <= 56 by decide),ws,w6,in_val1]
 apply ev_step
 by_cases h:0 <= n /\ n < 72057594037927936
 ·rw [decide_eq_true (show n >= 0 /\ n <= 72057594037927935 by omega),if_pos h]
  simp only [impl_Fixed.j0,Bool.not_true,Bool.false_eq_true,if_false]
  refine ev_at 8 fun k hk => ?_
  have:= fixed_impl 7 k n [] h.1 (by omega) (by simp) (by omega)
  rw [List.nil_append] at this
  have w6':wrap64 6 = 6:= by unfold wrap64; omega
  simpa [w6'] using this
 ·rw [decide_eq_false (show ¬ (n >= 0 /\ n <= 72057594037927935) by omega),if_neg h]
  simp only [impl_Fixed.j0,Bool.not_false,if_true]
  exact ev_const _
theorem rf_loop (s:ByteArray) (hs:7 <= s.size) (d:Nat):∀ (i:Nat) (x:Int),i + d = 7 -> 0 <= x -> x < 256 ^ i -> ∃ y,Ev (fun k => impl_ReadFixed.l0 k s x 7 (i:Int)) (y,true) /\ ∀ n:Int,0 <= n -> n < 72057594037927936 -> (∀ j:Nat,j < 7 -> bt s (j:Int) = n / 256 ^ (6 - j) % 256) -> x = n / 256 ^ (7 - i) -> y = n:= by
 induction d with
 | zero =>
  intro i x hi h0 h1
  obtain rfl:i = 7:= by omega
  refine ⟨x,ev_step ?_,fun n _ _ _ hx => by rw [hx,Nat.sub_self,Int.pow_zero,Int.ediv_one]⟩
  simp only [impl_ReadFixed.l0,if_neg (show ¬ ((7:Nat):Int) < 7 by decide)]
  exact ev_const _
 | succ d ih =>
  intro i x hi h0 h1
  have hx:= pow_six i x (by omega) h1
  have hbr:= bt_range s (i:Int)
  have wb:wrap64 (bt s (i:Int)) = bt s (i:Int):= by unfold wrap64; omega
  have e1:(256:Int) ^ (i + 1) = 256 ^ i * 256:= Int.pow_succ _ _
  obtain ⟨y,q1,q2⟩:= ih (i + 1) (x * 256 + bt s (i:Int)) (by omega) (by omega) (by omega)
  refine ⟨y,ev_step ?_,fun n n0 n1 hb hx => q2 n n0 n1 hb ?_⟩
  ·simp only [impl_ReadFixed.l0,if_pos (show (i:Int) < 7 by omega),if_pos (show 0 <= (i:Int) by omega),if_pos (show (i:Int) < (s.size:Int) by omega),wb,wrap_mul x h0 hx,or_byte x (bt s (i:Int)) h0 hx hbr.1 (by omega),wrap_next i (by omega)]
   exact q1
  ·rw [hb i (by omega),hx,show 7 - i = (6 - i) + 1 by omega,Int.pow_succ,<- Int.ediv_ediv_of_nonneg (Int.pow_nonneg (by omega)),show 7 - (i + 1) = 6 - i by omega]
   omega
theorem readfixed_ev (s:ByteArray) (hs:s.size <= 1048576):∃ r,Ev (fun k => impl_ReadFixed.f k s 7) r /\ (7 <= s.size -> r.2 = true /\ ∀ n:Int,0 <= n -> n < 72057594037927936 -> (∀ j:Nat,j < 7 -> bt s (j:Int) = n / 256 ^ (6 - j) % 256) -> r.1 = n):= by
 unfold impl_ReadFixed.f
 rw [in_val1,decide_eq_true (show (7:Int) >= 1 /\ (7:Int) <= 7 by decide)]
 simp only [Option.bind_some,if_true]
 by_cases h:(s.size:Int) < 7
 ·refine ⟨(0,false),ev_step ?_,fun q => by omega⟩
  simp only [impl_ReadFixed.j0,decide_eq_true h,if_true]
  exact ev_const _
 ·obtain ⟨y,q1,q2⟩:= rf_loop s (by omega) 7 0 0 (by omega) (by omega) (by decide)
  refine ⟨(y,true),ev_step ?_,fun _ => ⟨rfl,fun n n0 n1 hb => q2 n n0 n1 hb ?_⟩⟩
  ·simp only [impl_ReadFixed.j0,decide_eq_false h,Bool.false_eq_true,if_false]
   exact q1
  ·rw [show (256:Int) ^ (7 - 0) = 72057594037927936 by decide]
   exact (Int.ediv_eq_zero_of_lt n0 n1).symm
theorem be_get (w:Nat):∀ (n:Int),0 <= n -> ∀ j (h:j < (be w n).length),(be w n)[j] = n / 256 ^ (w - 1 - j) % 256:= by
 induction w with
 | zero => intro n _ j h; simp [be] at h
 | succ w ih =>
  intro n hn j h
  have e:= be_front w n hn
  rw [be_len] at h
  simp only [e,List.singleton_append]
  cases j with
  | zero => simp
  | succ j =>
   rw [List.getElem_cons_succ,ih n hn j (by rw [be_len]; omega)]
   congr 3
   omega
theorem hex_and:∀ n:Fin 256,Go.bits .and .u8 ((n.val:Nat):Int) 15 = ((n.val % 16:Nat):Int):= by decide +kernel
theorem hex_low (s:ByteArray) (i:Int):Go.bits .and .u8 (bt s i) 15 = bt s i % 16:= by
 have h:= bt_range s i
 have:= hex_and ⟨(bt s i).toNat,by omega⟩
 simp only at this
 rw [show (((bt s i).toNat:Nat):Int) = bt s i by omega] at this
 rw [this]
 omega
def hexD:ByteArray:= (⟨#[48,49,50,51,52,53,54,55,56,57,97,98,99,100,101,102]⟩:ByteArray)
def hexL:List Int -> List Int
 | [] => []
 | b :: r => bt hexD (b / 16) :: bt hexD (b % 16) :: hexL r
theorem hexL_len (l:List Int):(hexL l).length = 2 * l.length:= by
 induction l with
 | nil => rfl
 | cons b r ih => simp only [hexL,List.length_cons,ih]; omega
theorem hexL_bytes (l:List Int):bytes (hexL l):= by
 induction l with
 | nil => intro b hb; simp [hexL] at hb
 | cons x r ih =>
  intro b hb
  simp only [hexL,List.mem_cons] at hb
  rcases hb with rfl | rfl | hb
  ·have:= bt_range hexD (x / 16); omega
  ·have:= bt_range hexD (x % 16); omega
  ·exact ih b hb
theorem hex_loop (s:ByteArray) (hs:s.size <= 1048576) (r:List Int):∀ (a:List Int),bytesOf s = a ++ r -> Ev (fun k => impl_Hex.l0 k s (hexL a) (a.length:Int)) (strOfNums (hexL (bytesOf s))):= by
 have hlen:= bytesOf_length s
 induction r with
 | nil =>
  intro a h
  rw [List.append_nil] at h
  apply ev_step
  simp only [impl_Hex.l0,if_neg (show ¬ (a.length:Int) < (s.size:Int) by rw [<- hlen,h]; omega),h]
  exact ev_const _
 | cons b r ih =>
  intro a h
  have e:s.size = a.length + (r.length + 1):= by rw [<- hlen,h]; simp
  have hbt:bt s (a.length:Int) = b:= by
   rw [bt_get s a.length (by omega)]
   simp [h]
  have hl:= hex_low s (a.length:Int)
  have hbr:= bt_range s (a.length:Int)
  rw [hbt] at hl hbr
  have hx:hexL a ++ [bt hexD (b / 16),bt hexD (b % 16)] = hexL (a ++ [b]):= by
   clear h e hbt ih
   induction a with
   | nil => rfl
   | cons y a ih2 => simp only [hexL,List.cons_append,ih2]
  have hq:= ih (a ++ [b]) (by rw [h]; simp)
  have hal:= hexL_len a
  apply ev_step
  simp only [impl_Hex.l0,if_pos (show (a.length:Int) < (s.size:Int) by omega),if_pos (show 0 <= (a.length:Int) by omega),hbt,hl,if_pos (show 0 <= b / 16 by omega),if_pos (show b / 16 < 16 by omega),if_pos (show 0 <= b % 16 by omega),if_pos (show b % 16 < 16 by omega),Option.bind_some,wrap_next a.length (by omega)]
  rw [show (⟨#[48,49,50,51,52,53,54,55,56,57,97,98,99,100,101,102]⟩:ByteArray) = hexD from rfl,hx]
  simp only [if_pos (show (hexL a).length + [bt hexD (b / 16),bt hexD (b % 16)].length < 140737488355328 by rw [hal]; simp; omega)]
  rw [show ((a.length + 1:Nat):Int) = (((a ++ [b]).length:Nat):Int) by simp]
  exact hq
theorem digit_tab:∀ n:Fin 16,impl_digit.f 1 (bt hexD ((n.val:Nat):Int)) = some ((n.val:Nat):Int):= by decide +kernel
theorem digit_ev (x:Int) (h0:0 <= x) (h1:x < 16):Ev (fun k => impl_digit.f k (bt hexD x)) x:= by
 have:= digit_tab ⟨x.toNat,by omega⟩
 simp only at this
 rw [show ((x.toNat:Nat):Int) = x by omega] at this
 exact Ev.of (fun k => impl_digit.mono _ k) this
theorem unhex_loop (s:ByteArray) (hs:s.size <= 2097152) (r:List Int):∀ (a:List Int),bytes (a ++ r) -> bytesOf s = hexL (a ++ r) -> Ev (fun k => impl_Unhex.l0 k s a ((2 * a.length:Nat):Int)) (strOfNums (a ++ r),true):= by
 have hlen:= bytesOf_length s
 induction r with
 | nil =>
  intro a hb h
  rw [List.append_nil] at h ⊢
  apply ev_step
  have:s.size = 2 * a.length:= by rw [<- hlen,h,hexL_len]
  simp only [impl_Unhex.l0,if_neg (show ¬ ((2 * a.length:Nat):Int) < (s.size:Int) by omega)]
  exact ev_const _
 | cons b r ih =>
  intro a hb h
  have e:s.size = 2 * (a.length + (r.length + 1)):= by rw [<- hlen,h,hexL_len]; simp
  have hbb:= hb b (by simp)
  have hsplit:bytesOf s = hexL a ++ (bt hexD (b / 16) :: bt hexD (b % 16) :: hexL r):= by
   rw [h]
   clear h e hb ih
   induction a with
   | nil => rfl
   | cons y a ih2 => simp only [hexL,List.cons_append,ih2]
  have hal:= hexL_len a
  have b1:bt s ((2 * a.length:Nat):Int) = bt hexD (b / 16):= by
   rw [bt_get s _ (by omega)]
   simp [hsplit,hal]
  have b2:bt s ((2 * a.length + 1:Nat):Int) = bt hexD (b % 16):= by
   rw [bt_get s _ (by omega)]
   simp [hsplit,List.getElem_append_right,hal]
  have w2:wrap64 (((2 * a.length:Nat):Int) + 2) = ((2 * (a ++ [b]).length:Nat):Int):= by simp only [List.length_append,List.length_singleton]; unfold wrap64; omega
  have wv:(wrap64 ((wrap64 (16 * (b / 16))) + b % 16)) % 256 = b:= by unfold wrap64; omega
  have hq:= ih (a ++ [b]) (by simpa using hb) (by simpa using h)
  apply ev_step
  simp only [impl_Unhex.l0,if_pos (show ((2 * a.length:Nat):Int) < (s.size:Int) by omega),if_pos (show 0 <= ((2 * a.length:Nat):Int) by omega),b1,wrap_next (2 * a.length) (by omega),if_pos (show 0 <= ((2 * a.length + 1:Nat):Int) by omega),if_pos (show ((2 * a.length + 1:Nat):Int) < (s.size:Int) by omega),b2]
  refine ev_bind (digit_ev _ (by omega) (by omega)) (ev_bind (digit_ev _ (by omega) (by omega)) ?_)
  simp only [if_neg (show ¬ b / 16 < 0 by omega),if_neg (show ¬ b % 16 < 0 by omega),if_pos (show a.length < 140737488355328 by omega),wv,w2]
  rw [show a ++ b :: r = (a ++ [b]) ++ r by simp]
  exact hq
theorem hex_ev (s:ByteArray) (hs:s.size <= 1048576):Ev (fun k => impl_Hex.f k s) (strOfNums (hexL (bytesOf s))):= by
 unfold impl_Hex.f
 exact hex_loop s hs (bytesOf s) [] rfl
theorem str_bytesOf (s:ByteArray):strOfNums (bytesOf s) = s:= (tl_iff _ _).1 ((bytesOf_list _ _).2 (bytesOf_str _ (bytesOf_bytes s)))
theorem unhex_ev (s:ByteArray) (hs:s.size <= 1048576):Ev (fun k => impl_Unhex.f k (strOfNums (hexL (bytesOf s)))) (s,true):= by
 have hz:(strOfNums (hexL (bytesOf s))).size = 2 * s.size:= by rw [str_size,hexL_len,bytesOf_length]
 unfold impl_Unhex.f
 simp only [hz,if_pos (show (((2 * s.size:Nat):Int) % 2) = 0 by omega)]
 have:= unhex_loop (strOfNums (hexL (bytesOf s))) (by omega) (bytesOf s) [] (bytesOf_bytes s) (bytesOf_str _ (hexL_bytes _))
 rw [List.nil_append,str_bytesOf] at this
 exact this
theorem nil_iff (s:ByteArray):s.toList = [] ↔ s.size = 0:= by
 rw [ByteArray.toList_eq]
 have e:s.size = s.data.toList.length:= rfl
 rw [e,List.length_eq_zero_iff]
theorem rdM_dec (n:Int) (h:I64 n):rdM (Lib.itoa n) = if -999999999 <= n /\ n <= 999999999 then (n,true) else (0,false):= by
 by_cases c:-999999999 <= n /\ n <= 999999999
 ·rw [if_pos c,rdM_itoa n c.1 c.2]
 ·rw [if_neg c,rdM_no]
  rintro ⟨m,m0,m1,e⟩
  have a1:= atoi_itoa m (by omega) (by omega)
  have a2:= atoi_itoa n h.1 h.2
  rw [e,a2] at a1
  injection a1 with a1
  exact c (by omega)
theorem nil_nil:(⟨#[]⟩:ByteArray).toList = []:= (nil_iff _).2 rfl
theorem varM_in (n:Int) (h0:0 <= n) (h1:n <= 562949953421311) (t:ByteArray):rvM 7 [] (bytesOf (varM n ++ t)) = (n,((varM n).size:Int)) /\ (varM n).size ≠ 0:= by
 have hb:= enc_bytes 6 n h0 (by omega)
 have hl:= enc_len 6 n
 have e:varM n = strOfNums (enc 6 n):= by unfold varM; rw [if_pos ⟨h0,h1⟩]
 have e2:bytesOf (varM n ++ t) = enc 6 n ++ bytesOf t:= by
  rw [e]
  have:= bytesOf_str _ hb
  unfold bytesOf at this ⊢
  rw [ByteArray.data_append,Array.toList_append,List.map_append,this]
 have r:= rv_reads (enc 6 n) 7 [] (bytesOf t) (by rw [List.nil_append]; exact enc_can n h0 h1) (fun q => by rw [q] at hl; simp at hl) (fun x hx => by simp at hx) hl.1
 rw [List.nil_append,lval_enc 6 n h0 (by omega)] at r
 rw [e2,r,e,str_size]
 exact ⟨rfl,by omega⟩
theorem varM_out (n:Int) (h:¬ (0 <= n /\ n <= 562949953421311)):varM n = (⟨#[]⟩:ByteArray):= by unfold varM; rw [if_neg h]
theorem law2 (c:List Int) (hc:c.length <= 1048576) (t:ByteArray) (ht:t.size <= 1000):Ev (fun k => laws_FnNumbers.j2 k c t false) true:= by
 obtain ⟨q,eq,hq⟩:= draw_readvar c hc
 apply ev_step
 simp only [laws_FnNumbers.j2,Bool.false_eq_true,if_false]
 refine ev_bind (hex_ev t (by omega)) (ev_bind (unhex_ev t (by omega)) (ev_bind eq (ev_bind (readvar_ev q (by omega)) ?_)))
 simp only [if_true]
 have hv:= rv_tells 7 [] (bytesOf q) (fun x hx => by simp at hx) rfl
 rw [List.nil_append] at hv
 generalize rvM 7 [] (bytesOf q) = v at hv
 obtain ⟨z,j⟩:= v
 simp only at hv ⊢
 rcases hv with h0 | ⟨h0,h1,h7,h2,h3⟩
 ·simp only [if_pos h0]; exact ev_const _
 ·rw [bytesOf_length] at h1
  simp only [if_neg (show ¬ j = 0 by omega),if_pos (show j > 0 from h0)]
  refine ev_bind eq ?_
  simp only [if_pos h1]
  refine ev_bind (var_ev z) (ev_bind eq ?_)
  simp only [if_pos (show 0 <= j by omega),if_pos h1]
  refine ev_eq (ev_const _) ?_
  have hb:bytes ((bytesOf q).take j.toNat):= fun x hx => bytesOf_bytes q x (List.mem_of_mem_take hx)
  have hl:((bytesOf q).take j.toNat).length = j.toNat:= by rw [List.length_take,bytesOf_length]; omega
  have hz0:= lval_nonneg _ hb
  have hz1:= lval_lt _ hb
  rw [<- h3,hl] at hz1
  rw [<- h3] at hz0
  have hp:(128:Int) ^ j.toNat <= 128 ^ 7:= by
   have:(128:Nat) ^ j.toNat <= 128 ^ 7:= Nat.pow_le_pow_right (by omega) (by omega)
   exact_mod_cast this
  have e:varM z = strOfNums (enc 6 z):= by unfold varM; rw [if_pos ⟨hz0,by omega⟩]
  have ec:enc 6 z = (bytesOf q).take j.toNat:= by
   have:= enc_canon ((bytesOf q).take j.toNat) 6 hb (fun w => by rw [w] at hl; simp at hl; omega) (by omega)
   rw [<- h3] at this
   exact this.2 h2
  rw [beq_iff_eq,bytesOf_list,bytesOf_extract,e,bytesOf_str _ (by rw [ec]; exact hb),ec]
theorem law1 (c:List Int) (hc:c.length <= 1048576) (n:Int) (hn:I64 n) (t:ByteArray) (ht:t.size <= 1000):Ev (fun k => laws_FnNumbers.j1 k c n t false) true:= by
 have h2:= law2 c hc t ht
 have l:= dec_len1 19
 have hi:(Lib.itoa n).length <= 100:= by
  unfold Lib.itoa I64 at *
  split
  ·have:= l n.natAbs (by omega); simp only [List.length_cons]; omega
  ·have:= l n.toNat (by omega); omega
 have hr:= readdec_impl (Lib.itoa n) (by omega)
 rw [rdM_dec n hn] at hr
 have hr2:impl_ReadDec.f (decM n) = some (if -999999999 <= n /\ n <= 999999999 then (n,true) else (0,false)):= hr
 apply ev_step
 simp only [laws_FnNumbers.j1,Bool.false_eq_true,if_false,impl_dec n hn.1 hn.2,Option.bind_some,hr2]
 by_cases a:n > -1000000000
 ·by_cases b:n < 1000000000
  ·simp only [if_pos a,if_pos (show -999999999 <= n /\ n <= 999999999 by omega),decide_eq_true b,bne_self_eq_false,Bool.false_eq_true,if_false,if_true]
   exact h2
  ·simp only [if_pos a,if_neg (show ¬ (-999999999 <= n /\ n <= 999999999) by omega),decide_eq_false b,bne_self_eq_false,Bool.false_eq_true,if_false]
   exact h2
 ·simp only [if_neg a,if_neg (show ¬ (-999999999 <= n /\ n <= 999999999) by omega),bne_self_eq_false,Bool.false_eq_true,if_false]
  exact h2
theorem law0 (c:List Int) (hc:c.length <= 1048576) (n:Int) (hn:I64 n) (t:ByteArray) (ht:t.size <= 1000):Ev (fun k => laws_FnNumbers.j0 k c n t false) true:= by
 have h1:= law1 c hc n hn t ht
 apply ev_step
 simp only [laws_FnNumbers.j0,Bool.false_eq_true,if_false]
 refine ev_bind (fixed_ev n) ?_
 have hs:(fixM n).size <= 7:= by
  unfold fixM; split
  ·rw [str_size,be_len]; omega
  ·decide
 have hz:(fixM n ++ t).size <= 1048576:= by rw [ByteArray.size_append]; omega
 simp only [if_pos (show (fixM n).size + t.size <= 9223372036854775807 by omega)]
 obtain ⟨r,er,hr⟩:= readfixed_ev (fixM n ++ t) hz
 refine ev_bind er ?_
 by_cases h:0 <= n /\ n < 72057594037927936
 ·have e:fixM n = strOfNums (be 7 n):= by unfold fixM; rw [if_pos h]
  have es:(fixM n).size = 7:= by rw [e,str_size,be_len]
  have eb:bytesOf (fixM n ++ t) = be 7 n ++ bytesOf t:= by
   rw [e]
   have:= bytesOf_str _ (be_bytes 7 n)
   unfold bytesOf at this ⊢
   rw [ByteArray.data_append,Array.toList_append,List.map_append,this]
  obtain ⟨r2,r1⟩:= hr (by rw [ByteArray.size_append]; omega)
  have r1:= r1 n h.1 h.2 fun j hj => by
   have hl:= be_len 7 n
   rw [bt_get _ j (by rw [eb,List.length_append]; omega)]
   simp only [eb]
   rw [List.getElem_append_left (by omega),be_get 7 n h.1 j (by omega)]
  have ne:¬ (fixM n).toList = []:= fun q => by rw [nil_iff] at q; omega
  have ne2:((fixM n).toList == ([]:List UInt8)) = false:= beq_eq_false_iff_ne.mpr ne
  simp only [if_neg ne,ne2,r2,r1,if_true,es,if_neg (show ¬ n < 0 by omega),decide_eq_false (show ¬ n >= 72057594037927936 by omega)]
  exact h1
 ·have e:fixM n = (⟨#[]⟩:ByteArray):= by unfold fixM; rw [if_neg h]
  simp only [e,nil_nil,if_true]
  by_cases z:n < 0
  ·simp only [if_pos z]; exact h1
  ·simp only [if_neg z,decide_eq_true (show n >= 72057594037927936 by omega)]; exact h1
theorem FnNumbers:Pure:= by
 intro c ⟨_,_⟩
 refine Ev.rounds ?_
 unfold laws_FnNumbers.f laws_big.f
 simp only [Option.bind_some]
 by_cases hbig:(c.length:Int) > 1048576
 ·simp only [decide_eq_true hbig,if_true]; exact ev_const _
 simp only [decide_eq_false hbig,Bool.false_eq_true,if_false]
 have hc:c.length <= 1048576:= by omega
 obtain ⟨n,en,hn⟩:= draw_var c hc
 obtain ⟨t,et,ht⟩:= draw_hex c hc
 have hvs:(varM n).size <= 7:= by
  unfold varM; split
  ·rw [str_size]; exact (enc_len 6 n).1
  ·decide
 have hvt:(varM n ++ t).size <= 1000:= by rw [ByteArray.size_append]; omega
 have h0:= law0 c hc n hn t (by omega)
 refine ev_bind en (ev_bind et (ev_bind (var_ev n) ?_))
 simp only [if_pos (show (varM n).size + t.size <= 9223372036854775807 by omega)]
 refine ev_bind (readvar_ev _ (by omega)) ?_
 by_cases h:0 <= n /\ n <= 562949953421311
 ·obtain ⟨q1,q2⟩:= varM_in n h.1 h.2 t
  have ne:¬ (varM n).toList = []:= fun q => by rw [nil_iff] at q; exact q2 q
  have ne2:((varM n).toList != ([]:List UInt8)) = true:= bne_iff_ne.mpr ne
  simp only [q1,if_neg ne,ne2,if_pos (show n >= 0 from h.1),decide_eq_true h.2,bne_self_eq_false,Bool.false_eq_true,if_false,if_true]
  exact h0
 ·have ne2:(([]:List UInt8) != ([]:List UInt8)) = false:= rfl
  simp only [varM_out n h,nil_nil,ne2,if_true]
  by_cases z:n >= 0
  ·simp only [if_pos z,decide_eq_false (show ¬ n <= 562949953421311 by omega),bne_self_eq_false,Bool.false_eq_true,if_false]
   exact h0
  ·simp only [if_neg z,bne_self_eq_false,Bool.false_eq_true,if_false]
   exact h0
end Go.Proofs.YtdjamdnjkdllgaaDoor.Pure

