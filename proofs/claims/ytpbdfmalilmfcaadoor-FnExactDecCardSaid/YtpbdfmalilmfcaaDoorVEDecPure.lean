/- PureFnExactDec, of the words and walks that the law FnExactDec needs; made by this session's program out of printed texts. -/

import Derived.Test.YtpbdfmalilmfcaaDoorVEDecSay
import Derived.Laws.Strings
import Derived.Laws.BitsLemmas
set_option linter.unusedVariables false
set_option linter.unusedSimpArgs false
namespace Go.Proofs.YtpbdfmalilmfcaaDoor.Pure
open Go.RowKit Go.Proofs.YtpbdfmalilmfcaaDoor.PFnExactDec Go.Proofs.YtpbdfmalilmfcaaDoorW.PrintWords Go.Proofs.YtpbdfmalilmfcaaDoorW.PrintLast Go.Proofs.YtpbdfmalilmfcaaDoor.SayFnExactDec
theorem ev_step {α:Type} {g:Nat -> Option α} {r:α} (h:Ev (fun k => g (k + 1)) r):Ev g r:= Ev.step (fun _ => rfl) h
theorem ev_bind {α β:Type} {g:Nat -> Option α} {f:Nat -> α -> Option β} {a:α} {r:β} (h:Ev g a) (k:Ev (fun n => f n a) r):Ev (fun n => (g n).bind (f n)) r:= Ev.bind h k
theorem ev_const {α:Type} (r:α):Ev (fun _ => some r) r:= Ev.now r
theorem ev_eq {α:Type} {g:Nat -> Option α} {r q:α} (h:Ev g r) (e:r = q):Ev g q:= e ▸ h
theorem digs (l:List UInt8):(⟨l.toArray⟩:ByteArray).size = l.length:= by simp [ByteArray.size]
theorem one_num (d:Nat) (h:d < 10):strOfNums [wrap64 (48 + (d:Int)) % 256] = (⟨[UInt8.ofNat (48 + d)].toArray⟩:ByteArray):= by
 have e:wrap64 (48 + (d:Int)) % 256 = ((48 + d:Nat):Int):= by unfold wrap64; omega
 rw [e]
 unfold strOfNums
 simp only [List.map_cons,List.map_nil]
 rfl
theorem bytes_add (a b:List UInt8):(⟨a.toArray⟩:ByteArray) ++ (⟨b.toArray⟩:ByteArray) = (⟨(a ++ b).toArray⟩:ByteArray):= ByteArray.mk_append_mk a b
theorem dec_step (u:Nat) (h:10 <= u):Lib.decDigits u = Lib.decDigits (u / 10) ++ [UInt8.ofNat (48 + u % 10)]:= by
 rw [Lib.decDigits,dif_neg (by omega)]
theorem dec_last (u:Nat) (h:u < 10):Lib.decDigits u = [UInt8.ofNat (48 + u)]:= by
 rw [Lib.decDigits,dif_pos h]
theorem dec_end (x3:ByteArray) (b:Bool) (hs:x3.size <= 1000):Ev (fun k => spec_Dec.l0 k 0 x3 b) (if b = true then (⟨#[45]⟩:ByteArray) ++ x3 else x3):= by
 apply ev_step
 have h1:1 + x3.size <= 9223372036854775807:= by omega
 cases b
 ·simp only [spec_Dec.l0,if_true,Bool.false_eq_true,if_false]
  exact ev_const _
 ·simp only [spec_Dec.l0,if_true,if_pos h1]
  exact ev_const _
theorem dec_loop (u:Nat):∀ (x:Int) (t:List UInt8) (b:Bool),u <= 9223372036854775808 -> 0 < u -> (x = (u:Int) /\ u <= 9223372036854775807 \/ x = -(u:Int)) -> t.length + u.log2 <= 500 ->
  Ev (fun k => spec_Dec.l0 k x (⟨t.toArray⟩:ByteArray) b) (if b = true then (⟨#[45]⟩:ByteArray) ++ (⟨(Lib.decDigits u ++ t).toArray⟩:ByteArray) else (⟨(Lib.decDigits u ++ t).toArray⟩:ByteArray)):= by
 induction u using Nat.strongRecOn with
 | _ u ih =>
  intro x t b hu h0 hx ht
  have hne:¬ x = 0:= by omega
  have hd:u % 10 < 10:= Nat.mod_lt _ (by omega)
  have hsz:(strOfNums [wrap64 (48 + ((u % 10:Nat):Int)) % 256]).size = 1:= rfl
  have hts:(⟨t.toArray⟩:ByteArray).size = t.length:= digs t
  have h1:(strOfNums [wrap64 (48 + ((u % 10:Nat):Int)) % 256]).size + (⟨t.toArray⟩:ByteArray).size <= 9223372036854775807:= by rw [hsz,hts]; omega
  have next:Ev (fun k => spec_Dec.l0 k (wrap64 (Int.tdiv x 10)) (strOfNums [wrap64 (48 + ((u % 10:Nat):Int)) % 256] ++ (⟨t.toArray⟩:ByteArray)) b) (if b = true then (⟨#[45]⟩:ByteArray) ++ (⟨(Lib.decDigits u ++ t).toArray⟩:ByteArray) else (⟨(Lib.decDigits u ++ t).toArray⟩:ByteArray)):= by
   rw [one_num _ hd,bytes_add]
   by_cases c:u < 10
   ·have e:wrap64 (Int.tdiv x 10) = 0:= by
     rcases hx with ⟨rfl,_⟩ | rfl
     ·rw [Int.tdiv_eq_ediv_of_nonneg (by omega)]; unfold wrap64; omega
     ·rw [Int.neg_tdiv,Int.tdiv_eq_ediv_of_nonneg (by omega)]; unfold wrap64; omega
    rw [e,dec_last u c,show u % 10 = u from Nat.mod_eq_of_lt c]
    exact dec_end _ b (by rw [digs]; simp; omega)
   ·have hl:(u / 10).log2 + 1 <= u.log2:= by
     have h2:u / 10 <= u / 2:= by omega
     have h4:2 ^ u.log2 <= u:= Nat.log2_self_le (by omega)
     have h5:u < 2 ^ (u.log2 + 1):= Nat.lt_log2_self
     have h6:(u / 10).log2 < u.log2:= (Nat.log2_lt (by omega)).2 (by rw [Nat.pow_succ] at h5; omega)
     omega
    have:= ih (u / 10) (by omega) (wrap64 (Int.tdiv x 10)) ([UInt8.ofNat (48 + u % 10)] ++ t) b (by omega) (by omega) (by
     rcases hx with ⟨rfl,hx⟩ | rfl
     ·left
      rw [Int.tdiv_eq_ediv_of_nonneg (by omega)]; unfold wrap64; omega
     ·right
      rw [Int.neg_tdiv,Int.tdiv_eq_ediv_of_nonneg (by omega)]; unfold wrap64; omega) (by simp; omega)
    rw [dec_step u (by omega),List.append_assoc]
    exact this
  apply ev_step
  by_cases hn:Int.tmod x 10 < 0
  ·have e:wrap64 (-(Int.tmod x 10)) = ((u % 10:Nat):Int):= by
    rcases hx with ⟨rfl,_⟩ | rfl
    ·rw [Int.tmod_eq_emod_of_nonneg (by omega)] at hn; omega
    ·rw [Int.neg_tmod,Int.tmod_eq_emod_of_nonneg (by omega)]; unfold wrap64; omega
   simp only [spec_Dec.l0,if_neg hne,if_pos hn,Option.bind_some,e,if_pos h1]
   exact next
  ·have e:Int.tmod x 10 = ((u % 10:Nat):Int):= by
    rcases hx with ⟨rfl,_⟩ | rfl
    ·rw [Int.tmod_eq_emod_of_nonneg (by omega)]; omega
    ·rw [Int.neg_tmod,Int.tmod_eq_emod_of_nonneg (by omega)] at hn ⊢; omega
   simp only [spec_Dec.l0,if_neg hne,if_neg hn,Option.bind_some,e,if_pos h1]
   exact next
def decM (n:Int):ByteArray:= ⟨(Lib.itoa n).toArray⟩
theorem spec_dec (n:Int) (h0:-9223372036854775808 <= n) (h1:n <= 9223372036854775807):Ev (fun k => spec_Dec.f k n) (decM n):= by
 unfold spec_Dec.f
 by_cases c:n = 0
 ·simp only [if_pos c]
  refine ev_eq (ev_const _) ?_
  subst c
  unfold decM Lib.itoa
  rw [if_neg (by omega)]
  rw [show (0:Int).toNat = 0 from rfl,dec_last 0 (by omega)]
  rfl
 ·simp only [if_neg c]
  have hl:n.natAbs.log2 <= 64:= by
   have:n.natAbs.log2 < 65:= (Nat.log2_lt (by omega)).2 (by omega)
   omega
  have:= dec_loop n.natAbs n [] (decide (n < 0)) (by omega) (by omega) (by omega) (by simp; omega)
  refine ev_eq this ?_
  unfold decM Lib.itoa
  rw [List.append_nil]
  by_cases s:n < 0
  ·rw [decide_eq_true s,if_pos rfl,if_pos s]
   rw [show (⟨#[45]⟩:ByteArray) = (⟨[45].toArray⟩:ByteArray) from rfl,bytes_add]
   rfl
  ·rw [decide_eq_false s,if_neg (by simp),if_neg s,show n.natAbs = n.toNat by omega]
theorem impl_dec (n:Int) (h0:-9223372036854775808 <= n) (h1:n <= 9223372036854775807):impl_Dec.f n = some (decM n):= by
 unfold impl_Dec.f strconv_Itoa_6.f
 rw [if_pos h0,if_pos h1]
 rfl
theorem FnExactDec:Pure:= by
 intro a h
 have hr:-9223372036854775808 <= a /\ a <= 9223372036854775807:= by
  simp only [Lit.wf] at h
  simpa [IntKind.min,IntKind.max,IntKind.signed,IntKind.bits] using h
 refine Ev.rounds ?_
 unfold laws_FnExactDec.f
 refine ev_bind (spec_dec a hr.1 hr.2) ?_
 simp only [impl_dec a hr.1 hr.2,Option.bind_some,if_true]
 exact ev_const _
end Go.Proofs.YtpbdfmalilmfcaaDoor.Pure

