/- Law: texts of this claim, in one. -/
import Derived.Test.YthmpgocaoccnaaaGreatDoorVFnFreshDrawnLaw
import Derived.Laws.Strings
import Derived.Laws.BitsLemmas
import Derived.Test.YthmpgocaoccnaaaGreatDoorTie
import Derived.Test.YthmpgocaoccnaaaGreatDoorCards
import Derived.LaidMore
import Derived.Lay
import Derived.SevenTiedAt
import Derived.Stop.Joined
import Derived.Test.YthmpgocaoccnaaaGreatDoorRows
import Derived.WalkKit
import Derived.ProofKit
import Derived.OpenShut
import Derived.ShutString
import Derived.ChangeOld
import Derived.Below
import Derived.SizedLaws
import Derived.Carry
set_option linter.unusedVariables false
set_option linter.unusedSimpArgs false
set_option linter.unusedSectionVars false
namespace Go.Proofs.YthmpgocaoccnaaaGreatDoor.Pure
open Go.RowKit Go.Proofs.YthmpgocaoccnaaaGreatDoor.PFnFresh Go.Proofs.YthmpgocaoccnaaaGreatDoorW.PrintWords Go.Proofs.YthmpgocaoccnaaaGreatDoorW.PrintLast Go.Proofs.YthmpgocaoccnaaaGreatDoor.SayFnFresh Go.Proofs.YthmpgocaoccnaaaGreatDoor.PFnFresh.Dw
theorem wrap_next (i:Nat) (h:i<4611686018427387904):wrap64 ((i:Int)+1)=((i+1:Nat):Int):= by unfold wrap64;omega
theorem all_grown {α:Type} {x m:List α} (hl:x.length=m.length) (h:∀ j,j<m.length->x[j]?=m[j]?):x=m:= by
 apply List.ext_getElem? ;intro j
 by_cases hj:j<m.length
 ·exact h j hj
 ·rw [List.getElem?_eq_none (by omega),List.getElem?_eq_none (by omega)]
theorem rdN_get (xs:List S45) (i:Nat) (h:i<xs.length):rd_T45 xs (i:Int)=xs[i]:= by
 unfold rd_T45
 simp [List.getD_eq_getElem?_getD,List.getElem?_eq_getElem h]
theorem ev_step {α:Type} {g:Nat->Option α} {r:α} (h:Ev (fun k=>g (k+1)) r):Ev g r:= Ev.step (fun _=>rfl) h
theorem ev_bind {α β:Type} {g:Nat->Option α} {f:Nat->α->Option β} {a:α} {r:β} (h:Ev g a) (k:Ev (fun n=>f n a) r):Ev (fun n=>(g n).bind (f n)) r:= Ev.bind h k
theorem ev_const {α:Type} (r:α):Ev (fun _=>some r) r:= Ev.now r
theorem ev_at {α:Type} {g:Nat->Option α} {r:α} (n:Nat) (h:∀ k,n<=k->g k=some r):Ev g r:= ⟨n,h⟩
theorem ev_eq {α:Type} {g:Nat->Option α} {r q:α} (h:Ev g r) (e:r=q):Ev g q:= e ▸ h
def keyList:List ByteArray:= [(⟨#[102,117,110]⟩:ByteArray),(⟨#[97,112,112]⟩:ByteArray),(⟨#[108,101,116]⟩:ByteArray),(⟨#[114,101,99]⟩:ByteArray),(⟨#[105,102]⟩:ByteArray),(⟨#[97,100,100]⟩:ByteArray),(⟨#[115,117,98]⟩:ByteArray),(⟨#[108,101,115,115]⟩:ByteArray),(⟨#[115,97,109,101]⟩:ByteArray),(⟨#[112,97,105,114]⟩:ByteArray),(⟨#[102,115,116]⟩:ByteArray),(⟨#[115,110,100]⟩:ByteArray),(⟨#[110,105,108]⟩:ByteArray),(⟨#[99,111,110,115]⟩:ByteArray),(⟨#[109,97,116,99,104]⟩:ByteArray),(⟨#[114,101,102]⟩:ByteArray),(⟨#[103,101,116]⟩:ByteArray),(⟨#[115,101,116]⟩:ByteArray),(⟨#[114,97,105,115,101]⟩:ByteArray),(⟨#[116,114,121]⟩:ByteArray)]
theorem key_split:strings_Split.f 60 (⟨#[102,117,110,32,97,112,112,32,108,101,116,32,114,101,99,32,105,102,32,97,100,100,32,115,117,98,32,108,101,115,115,32,115,97,109,101,32,112,97,105,114,32,102,115,116,32,115,110,100,32,110,105,108,32,99,111,110,115,32,109,97,116,99,104,32,114,101,102,32,103,101,116,32,115,101,116,32,114,97,105,115,101,32,116,114,121]⟩:ByteArray) (⟨#[32]⟩:ByteArray)=some keyList:= by decide +kernel
def isKeyM (s:ByteArray):Bool:= keyList.any fun x=>decide (x.toList=s.toList)
theorem rds_get (g:List ByteArray) (i:Nat) (h:i<g.length):rdOf ByteArray.empty g (i:Int)=g[i]:= by
 unfold rdOf
 simp [List.getD_eq_getElem?_getD,List.getElem?_eq_getElem h]
theorem key_loops (s:ByteArray) (L:List ByteArray) (hL:L.length<=1048576) (m:Nat):∀ i:Nat,i+m=L.length->Ev (fun k=>spec_IsKey.l0 k s L i) ((L.drop i).any fun x=>decide (x.toList=s.toList))/\Ev (fun k=>impl_IsKey.l0 k s L (L.length:Int) i) ((L.drop i).any fun x=>decide (x.toList=s.toList)):= by
 induction m with
 | zero =>
  intro i hi
  have c:¬ (i:Int)<(L.length:Int):= by omega
  rw [List.drop_of_length_le (by omega)]
  constructor
  ·apply ev_step
   simp only [spec_IsKey.l0,if_neg c]
   exact ev_const false
  ·apply ev_step
   simp only [impl_IsKey.l0,if_neg c]
   exact ev_const false
 | succ m ih =>
  intro i hi
  have c:(i:Int)<(L.length:Int):= by omega
  have c0:0<=(i:Int):= Int.natCast_nonneg i
  have hi':i<L.length:= by omega
  obtain ⟨h1,h2⟩:= ih (i+1) (by omega)
  rw [List.drop_eq_getElem_cons hi',List.any_cons]
  constructor
  ·apply ev_step
   simp only [spec_IsKey.l0,if_pos c,if_pos c0,wrap_next i (by omega),rds_get L i hi']
   by_cases e:L[i].toList=s.toList
   ·simp only [if_pos e]
    simpa [e] using ev_const true
   ·simp only [if_neg e]
    simpa [e] using h1
  ·apply ev_step
   simp only [impl_IsKey.l0,if_pos c,if_pos c0,wrap_next i (by omega),rds_get L i hi']
   by_cases e:L[i].toList=s.toList
   ·simp only [if_pos e]
    simpa [e] using ev_const true
   ·simp only [if_neg e]
    simpa [e] using h2
theorem spec_isKey (s:ByteArray):Ev (fun k=>spec_IsKey.f k s) (isKeyM s):= by
 have h:= (key_loops s keyList (by decide) keyList.length 0 (by decide)).1
 unfold spec_IsKey.f
 simp only [spec_l3Keys.f,Option.bind_some]
 exact h
theorem impl_isKey (s:ByteArray):Ev (fun k=>impl_IsKey.f k s) (isKeyM s):= by
 have h:= (key_loops s keyList (by decide) keyList.length 0 (by decide)).2
 unfold impl_IsKey.f
 exact ev_bind (Ev.of (fun k=>strings_Split.mono _ _ k) key_split) h
theorem toList_loop_len (b:ByteArray):∀ (m i:Nat) (acc:List UInt8),b.size - i=m->(ByteArray.toList.loop b i acc).length=acc.length+m:= by
 intro m
 induction m with
 | zero=>intro i acc h;unfold ByteArray.toList.loop;rw [if_neg (by omega)];simp
 | succ m ih=>intro i acc h;unfold ByteArray.toList.loop;rw [if_pos (by omega),ih (i+1) _ (by omega)];simp;omega
theorem toList_len (b:ByteArray):b.toList.length=b.size:= by
 unfold ByteArray.toList
 rw [toList_loop_len b b.size 0 [] (by omega)]
 simp
theorem rd_get (xs:List Int) (i:Nat) (h:i<xs.length):rd xs (i:Int)=xs[i]:= by
 unfold rd
 simp [List.getD_eq_getElem?_getD,List.getElem?_eq_getElem h]
theorem in_same (a b c:Int):impl_in.f a b c=spec_l1In.f a b c:= rfl
theorem in_some (a b c:Int):spec_l1In.f a b c=some (decide (b<=a/\a<=c)):= by
 unfold spec_l1In.f
 by_cases h:a >= b
 ·rw [if_pos h]
  by_cases h2:a<=c
  ·rw [decide_eq_true h2,decide_eq_true ⟨h,h2⟩]
  ·rw [decide_eq_false h2,decide_eq_false (by omega)]
 ·rw [if_neg h,decide_eq_false (by omega)]
def ar (a:Int):Nat:= if a=3\/a=10\/a=11\/a=15\/a=16\/a=18 then 1 else if a=4\/a=5\/a=6\/a=8\/a=9\/a=13\/a=17\/a=19 then 2 else if a=7\/a=14 then 3 else 0
def nm (a:Int):Nat:= if a=1\/a=3\/a=5\/a=19 then 1 else if a=6\/a=14 then 2 else 0
theorem ar_most (a:Int):ar a<=3:= by unfold ar;repeat' split <;> try omega
theorem nm_most (a:Int):nm a=0\/nm a=1\/nm a=2:= by unfold nm;repeat' split <;> try omega
theorem arity_at (a:Int) (k:Nat):spec_Arity.f (k+2) a=some (ar a:Int):= by
 by_cases h:a=3\/a=10\/a=11\/a=15\/a=16\/a=18\/a=4\/a=5\/a=6\/a=8\/a=9\/a=13\/a=17\/a=19\/a=7\/a=14
 ·rcases h with rfl|rfl|rfl|rfl|rfl|rfl|rfl|rfl|rfl|rfl|rfl|rfl|rfl|rfl|rfl|rfl <;> rfl
 ·simp only [not_or] at h
  obtain ⟨h1,h2,h3,h4,h5,h6,h7,h8,h9,h10,h11,h12,h13,h14,h15,h16⟩:= h
  simp [spec_Arity.f,spec_Arity.j0,spec_Arity.j1,ar,h1,h2,h3,h4,h5,h6,h7,h8,h9,h10,h11,h12,h13,h14,h15,h16]
theorem spec_ar (a:Int):Ev (fun k=>spec_Arity.f k a) (ar a:Int):= ev_at 2 (fun k hk=>by
 obtain ⟨k,rfl⟩:∃ m,k=m+2:= ⟨k - 2,by omega⟩
 exact arity_at a k)
theorem impl_ar (a:Int):Ev (fun k=>impl_Arity.f k a) (ar a:Int):= ev_at 2 (fun k hk=>by
 obtain ⟨k,rfl⟩:∃ m,k=m+2:= ⟨k - 2,by omega⟩
 have e:impl_Arity.f (k+2) a=spec_Arity.f (k+2) a:= by
  simp only [spec_Arity.f,impl_Arity.f,spec_Arity.j0,spec_Arity.j1,impl_Arity.j0,impl_Arity.j1]
 exact e.trans (arity_at a k))
theorem names_at (a:Int) (k:Nat):spec_l3Names.f (k+2) a=some (nm a:Int):= by
 by_cases h:a=1\/a=3\/a=5\/a=19\/a=6\/a=14
 ·rcases h with rfl|rfl|rfl|rfl|rfl|rfl <;> rfl
 ·simp only [not_or] at h
  obtain ⟨h1,h2,h3,h4,h5,h6⟩:= h
  simp [spec_l3Names.f,spec_l3Names.j0,nm,h1,h2,h3,h4,h5,h6]
theorem spec_nm (a:Int):Ev (fun k=>spec_l3Names.f k a) (nm a:Int):= ev_at 2 (fun k hk=>by
 obtain ⟨k,rfl⟩:∃ m,k=m+2:= ⟨k - 2,by omega⟩
 exact names_at a k)
theorem impl_nm (a:Int):Ev (fun k=>impl_namesOf.f k a) (nm a:Int):= ev_at 2 (fun k hk=>by
 obtain ⟨k,rfl⟩:∃ m,k=m+2:= ⟨k - 2,by omega⟩
 have e:impl_namesOf.f (k+2) a=spec_l3Names.f (k+2) a:= by
  simp only [spec_l3Names.f,impl_namesOf.f,spec_l3Names.j0,impl_namesOf.j0]
 exact e.trans (names_at a k))
def kidsM (n:S45):List Int:= [n.f1,n.f2,n.f3].take (ar n.f0)
theorem kidsM_len (n:S45):(kidsM n).length=ar n.f0:= by
 have:= ar_most n.f0
 unfold kidsM
 rw [List.length_take]
 simp only [List.length_cons,List.length_nil]
 omega
theorem spec_kids (n:S45):Ev (fun k=>spec_Kids.f k n.f0 n.f1 n.f2 n.f3 n.f4 n.f5 n.f6) (kidsM n):= by
 have h:= ar_most n.f0
 unfold spec_Kids.f
 simp only [Option.bind_some]
 refine ev_bind (spec_ar n.f0) ?_
 have c1:(0:Int)<=(ar n.f0:Int):= by omega
 have c2:(ar n.f0:Int)<=(([n.f1,n.f2,n.f3]:List Int).length:Int):= by simp only [List.length_cons,List.length_nil];omega
 simp only [if_pos c1,if_pos c2,Int.toNat_natCast]
 exact ev_const _
theorem impl_kids (n:S45):Ev (fun k=>impl_Kids.f k n.f0 n.f1 n.f2 n.f3 n.f4 n.f5 n.f6) (kidsM n):= by
 have h:= ar_most n.f0
 unfold impl_Kids.f
 simp only [Option.bind_some]
 refine ev_bind (impl_ar n.f0) (ev_bind (impl_ar n.f0) ?_)
 have c1:(0:Int)<=(ar n.f0:Int):= by omega
 have c2:(ar n.f0:Int)<=(([n.f1,n.f2,n.f3]:List Int).length:Int):= by simp only [List.length_cons,List.length_nil];omega
 have c3:(ar n.f0:Int)<=(ar n.f0:Int):= Int.le_refl _
 simp only [if_pos c1,if_pos c2,if_pos c3,Int.toNat_natCast]
 exact ev_const _
def wordM (s:ByteArray):Bool:= ((List.range' 0 s.size).all fun (i:Nat)=>decide (97<=bt s i) && decide (bt s i<=122)) && decide (1<=(s.size:Int)/\(s.size:Int)<=8)
def nameM (s:ByteArray):Bool:= wordM s && !isKeyM s
theorem word_loops (s:ByteArray) (hn:s.size<=1048576) (m:Nat):∀ i:Nat,i+m=s.size ->
  Ev (fun k=>spec_IsWord.l0 k s i) (((List.range' i m).all fun (i:Nat)=>decide (97<=bt s i) && decide (bt s i<=122)) && decide (1<=(s.size:Int)/\(s.size:Int)<=8)) /\
  Ev (fun k=>impl_IsWord.l0 k s i) (((List.range' i m).all fun (i:Nat)=>decide (97<=bt s i) && decide (bt s i<=122)) && decide (1<=(s.size:Int)/\(s.size:Int)<=8)):= by
 induction m with
 | zero =>
  intro i hi
  have c:¬ (i:Int)<(s.size:Int):= by omega
  constructor
  ·apply ev_step
   simp only [spec_IsWord.l0,if_neg c,in_some,Option.bind_some]
   exact ev_const _
  ·apply ev_step
   simp only [impl_IsWord.l0,if_neg c,in_same,in_some,Option.bind_some]
   exact ev_const _
 | succ m ih =>
  intro i hi
  obtain ⟨h1,h2⟩:= ih (i+1) (by omega)
  have c:(i:Int)<(s.size:Int):= by omega
  have c0:0<=(i:Int):= Int.natCast_nonneg i
  rw [List.range'_succ,List.all_cons]
  constructor
  ·apply ev_step
   simp only [spec_IsWord.l0,if_pos c,if_pos c0,wrap_next i (by omega),spec_l2Letter.f]
   by_cases a1:bt s i >= 97
   ·simp only [if_pos a1,Option.bind_some]
    by_cases a2:bt s i<=122
    ·simp only [decide_eq_true a2,if_true]
     simpa [decide_eq_true (show 97<=bt s i from a1)] using h1
    ·simp only [decide_eq_false a2,Bool.false_eq_true,if_false]
     simpa using ev_const false
   ·simp only [if_neg a1,Option.bind_some,Bool.false_eq_true,if_false]
    simpa [decide_eq_false (show ¬ 97<=bt s i from a1)] using ev_const false
  ·apply ev_step
   simp only [impl_IsWord.l0,if_pos c,if_pos c0,wrap_next i (by omega)]
   by_cases a1:bt s i<97
   ·simp only [if_pos a1]
    simpa [decide_eq_false (show ¬ 97<=bt s i by omega)] using ev_const false
   ·simp only [if_neg a1]
    by_cases a2:bt s i > 122
    ·simp only [if_pos a2]
     simpa [decide_eq_false (show ¬ bt s i<=122 by omega)] using ev_const false
    ·simp only [if_neg a2]
     simpa [decide_eq_true (show 97<=bt s i by omega),decide_eq_true (show bt s i<=122 by omega)] using h2
theorem spec_word (s:ByteArray) (hn:s.size<=1048576):Ev (fun k=>spec_IsWord.f k s) (wordM s):= (word_loops s hn s.size 0 (by omega)).1
theorem impl_word (s:ByteArray) (hn:s.size<=1048576):Ev (fun k=>impl_IsWord.f k s) (wordM s):= (word_loops s hn s.size 0 (by omega)).2
theorem spec_name (s:ByteArray) (hn:s.size<=1048576):Ev (fun k=>spec_l3Name.f k s) (nameM s):= by
 unfold spec_l3Name.f nameM
 refine ev_bind (spec_word s hn) ?_
 cases wordM s
 ·simp only [Bool.false_eq_true,if_false]
  exact ev_const _
 ·simp only [if_true]
  exact ev_bind (spec_isKey s) (ev_const _)
theorem impl_name (s:ByteArray) (hn:s.size<=1048576):Ev (fun k=>impl_isName.f k s) (nameM s):= by
 unfold impl_isName.f nameM
 refine ev_bind (impl_word s hn) ?_
 cases wordM s
 ·simp only [Bool.false_eq_true,if_false]
  exact ev_const _
 ·simp only [if_true]
  exact ev_bind (impl_isKey s) (ev_const _)
theorem name_some {s:ByteArray} (h:nameM s=true):s.toList≠[]:= by
 intro e
 have l:= toList_len s
 rw [e] at l
 unfold nameM wordM at h
 simp at h l
 omega
def fitsM (s:ByteArray) (b:Bool):Bool:= if b=true then nameM s else s.toList == []
theorem impl_fits (s:ByteArray) (hn:s.size<=1048576) (b:Bool):Ev (fun k=>impl_nameFits.f k s b) (fitsM s b):= by
 unfold impl_nameFits.f fitsM
 cases b
 ·simp only [Bool.false_eq_true,if_false]
  exact ev_const _
 ·simp only [if_true]
  exact ev_bind (impl_name s hn) (ev_const _)
def zeroM (n:S45):Bool:= decide ((ar n.f0<1->n.f1=0)/\(ar n.f0<2->n.f2=0)/\(ar n.f0<3->n.f3=0))
def numM (n:S45):Bool:= if n.f0=2 then decide (0<=n.f4/\n.f4<=65535) else if n.f0=8 then decide (0<=n.f4/\n.f4<=3) else n.f4 == 0
def fieldsM (n:S45):Bool:= decide (1<=n.f0/\n.f0<=19) && (zeroM n && (fitsM n.f5 (decide (nm n.f0 > 0)) && (fitsM n.f6 (decide (nm n.f0 > 1)) && numM n)))
def small (n:S45):Prop:= n.f5.size<=1048576/\n.f6.size<=1048576
theorem spec_f1 (n:S45) (b:Bool):Ev (fun k=>spec_l3Fields.j1 k b n.f0 n.f1 n.f2 n.f3 n.f4 n.f5 n.f6) (!b && numM n):= by
 apply ev_step
 simp only [spec_l3Fields.j1,in_some,Option.bind_some]
 cases b
 ·simp only [Bool.false_eq_true,if_false,Bool.not_false,Bool.true_and]
  unfold numM
  split
  ·exact ev_const _
  ·split
   ·exact ev_const _
   ·exact ev_const _
 ·simp only [if_true]
  exact ev_const false
theorem spec_other (n:S45) (hs:small n) (m:Nat) (hm:m=0\/m=1\/m=2):Ev (fun k=>(spec_l3Name.f k n.f6).bind fun t=>(if ((decide ((m:Int) > 1)) != t)=true then (spec_l3Fields.j1 k true n.f0 n.f1 n.f2 n.f3 n.f4 n.f5 n.f6) else (if (m:Int)<2 then (spec_l3Fields.j1 k (n.f6.toList != ([]:List UInt8)) n.f0 n.f1 n.f2 n.f3 n.f4 n.f5 n.f6) else (spec_l3Fields.j1 k false n.f0 n.f1 n.f2 n.f3 n.f4 n.f5 n.f6)))) (fitsM n.f6 (decide (m > 1)) && numM n):= by
 refine ev_bind (spec_name n.f6 hs.2) ?_
 have e0:= @name_some n.f6
 have f1:= spec_f1 n true
 have f2:= spec_f1 n false
 have f3:= spec_f1 n (n.f6.toList != ([]:List UInt8))
 have hb:(n.f6.toList != ([]:List UInt8))=!(n.f6.toList == ([]:List UInt8)):= rfl
 have e1:nameM n.f6=true->(n.f6.toList == ([]:List UInt8))=false:= fun h=>by
  have:= e0 h
  cases hh:n.f6.toList == ([]:List UInt8)
  ·rfl
  ·exact absurd (by simpa using hh) this
 unfold fitsM
 rw [hb] at f3 ⊢
 generalize (n.f6.toList == ([]:List UInt8))=z at f3 e1 ⊢
 rcases hm with rfl|rfl|rfl
 ·cases h:nameM n.f6
  ·simpa using f3
  ·simpa [e1 h] using f1
 ·cases h:nameM n.f6
  ·simpa using f3
  ·simpa [e1 h] using f1
 ·cases h:nameM n.f6
  ·simpa [h] using f1
  ·simpa [h] using f2
theorem spec_f0 (n:S45) (hs:small n) (b:Bool):Ev (fun k=>spec_l3Fields.j0 k b n.f0 n.f1 n.f2 n.f3 n.f4 n.f5 n.f6) (!b && (fitsM n.f5 (decide (nm n.f0 > 0)) && (fitsM n.f6 (decide (nm n.f0 > 1)) && numM n))):= by
 apply ev_step
 simp only [spec_l3Fields.j0]
 cases b
 rotate_left
 ·simp only [if_true]
  exact ev_const false
 simp only [Bool.false_eq_true,if_false,Bool.not_false,Bool.true_and]
 refine ev_bind (spec_nm n.f0) (ev_bind (spec_name n.f5 hs.1) ?_)
 have e0:= @name_some n.f5
 have f1:= spec_f1 n true
 have f2:= spec_other n hs (nm n.f0) (nm_most n.f0)
 generalize nm n.f0=m at f2 ⊢
 rcases Nat.eq_zero_or_pos m with h0|h0
 ·subst h0
  cases h:nameM n.f5
  ·by_cases e:n.f5.toList=[]
   ·simpa [fitsM,e,h] using f2
   ·have ez:fitsM n.f5 (decide (0 > 0))=false:= by
     unfold fitsM
     rw [if_neg (by decide)]
     cases hh:n.f5.toList == ([]:List UInt8)
     ·rfl
     ·exact absurd (by simpa using hh) e
    rw [ez]
    simpa [e,h] using f1
  ·have ez:fitsM n.f5 (decide (0 > 0))=false:= by
    unfold fitsM
    rw [if_neg (by decide)]
    cases hh:n.f5.toList == ([]:List UInt8)
    ·rfl
    ·exact absurd (by simpa using hh) (e0 h)
   rw [ez]
   simpa [h] using f1
 ·have c1:(m:Int) > 0:= by omega
  have c2:¬ (m:Int)=0:= by omega
  cases h:nameM n.f5
  ·simp only [decide_eq_true c1,decide_eq_true (show m > 0 from h0)]
   simpa [fitsM,h] using f1
  ·simp only [decide_eq_true c1,decide_eq_true (show m > 0 from h0),if_neg c2]
   simpa [fitsM,h] using f2
theorem spec_fields (n:S45) (hs:small n):Ev (fun k=>spec_l3Fields.f k n.f0 n.f1 n.f2 n.f3 n.f4 n.f5 n.f6) (fieldsM n):= by
 unfold spec_l3Fields.f
 simp only [in_some,Option.bind_some]
 unfold fieldsM
 by_cases h:1<=n.f0/\n.f0<=19
 rotate_left
 ·simp only [decide_eq_false h,Bool.false_eq_true,if_false]
  exact ev_const false
 simp only [decide_eq_true h,if_true,Bool.true_and]
 refine ev_bind (spec_ar n.f0) ?_
 have g0:= spec_f0 n hs false
 have g1:= spec_f0 n hs true
 have g2:= spec_f0 n hs (n.f3 != 0)
 generalize (fitsM n.f5 (decide (nm n.f0 > 0)) && (fitsM n.f6 (decide (nm n.f0 > 1)) && numM n))=R at g0 g1 g2 ⊢
 have ha:= ar_most n.f0
 unfold zeroM
 have hb3:(n.f3 != 0)=!(decide (n.f3=0)):= rfl
 rw [hb3] at g2 ⊢
 generalize ar n.f0=m at ha ⊢
 have hm:m=0\/m=1\/m=2\/m=3:= by omega
 rcases hm with rfl|rfl|rfl|rfl
 ·by_cases e1:n.f1=0
  ·by_cases e2:n.f2=0
   ·simpa [e1,e2] using g2
   ·simpa [e1,e2] using g1
  ·simpa [e1] using g1
 ·by_cases e2:n.f2=0
  ·simpa [e2] using g2
  ·simpa [e2] using g1
 ·simpa using g2
 ·simpa using g0
theorem impl_f_end (n:S45) (L:List Int):Ev (fun k=>impl_fieldsOk.l0 k L 3 3 n.f0 n.f1 n.f2 n.f3 n.f4 n.f5 n.f6) (numM n):= by
 apply ev_step
 have c:¬ (3:Int)<3:= by omega
 simp only [impl_fieldsOk.l0,if_neg c,in_same,in_some,Option.bind_some]
 unfold numM
 split
 ·exact ev_const _
 ·split
  ·exact ev_const _
  ·exact ev_const _
theorem impl_f_step (n:S45) (L:List Int) (hL:L.length=3) (j:Nat) (hj:j<3) {R:Bool} (h:Ev (fun k=>impl_fieldsOk.l0 k L 3 ((j+1:Nat):Int) n.f0 n.f1 n.f2 n.f3 n.f4 n.f5 n.f6) R) :
  Ev (fun k=>impl_fieldsOk.l0 k L 3 (j:Int) n.f0 n.f1 n.f2 n.f3 n.f4 n.f5 n.f6) (decide (ar n.f0<j+1->L[j]'(by omega)=0) && R):= by
 apply ev_step
 have c:(j:Int)<3:= by omega
 have c0:(0:Int)<=(j:Int):= by omega
 have c1:(j:Int)<(L.length:Int):= by omega
 simp only [impl_fieldsOk.l0,if_pos c,if_pos c0,if_pos c1,rd_get L j (by omega),wrap_next j (by omega)]
 refine ev_bind (impl_ar n.f0) ?_
 by_cases e:(j:Int) >= (ar n.f0:Int)
 ·simp only [if_pos e]
  have e':ar n.f0<j+1:= by omega
  by_cases z:L[j]'(by omega)=0
  ·simp only [if_pos z]
   simpa [z] using h
  ·simp only [if_neg z]
   simpa [z,e'] using ev_const false
 ·simp only [if_neg e]
  have e':¬ ar n.f0<j+1:= by omega
  simpa [e'] using h
theorem impl_fields (n:S45) (hs:small n):Ev (fun k=>impl_fieldsOk.f k n.f0 n.f1 n.f2 n.f3 n.f4 n.f5 n.f6) (fieldsM n):= by
 have hj:∀ b:Bool,Ev (fun k=>impl_fieldsOk.j0 k b n.f0 n.f1 n.f2 n.f3 n.f4 n.f5 n.f6) (!b && (zeroM n && numM n)):= by
  intro b
  apply ev_step
  simp only [impl_fieldsOk.j0]
  cases b
  rotate_left
  ·simp only [if_true]
   exact ev_const false
  simp only [Bool.false_eq_true,if_false,Bool.not_false,Bool.true_and,Option.bind_some]
  have h3:= impl_f_end n [n.f1,n.f2,n.f3]
  have h2:= impl_f_step n [n.f1,n.f2,n.f3] rfl 2 (by omega) h3
  have h1:= impl_f_step n [n.f1,n.f2,n.f3] rfl 1 (by omega) h2
  have h0:= impl_f_step n [n.f1,n.f2,n.f3] rfl 0 (by omega) h1
  refine ev_eq h0 ?_
  unfold zeroM
  simp only [Bool.decide_and,Bool.and_assoc]
  rfl
 unfold impl_fieldsOk.f
 simp only [in_same,in_some,Option.bind_some]
 unfold fieldsM
 by_cases h:1<=n.f0/\n.f0<=19
 rotate_left
 ·simp only [decide_eq_false h,Bool.false_eq_true,if_false]
  exact hj true
 simp only [decide_eq_true h,if_true,Bool.true_and]
 refine ev_bind (impl_nm n.f0) ?_
 have d1:(decide ((nm n.f0:Int) > 0))=decide (nm n.f0 > 0):= decide_eq_decide.2 (by omega)
 have d2:(decide ((nm n.f0:Int) > 1))=decide (nm n.f0 > 1):= decide_eq_decide.2 (by omega)
 refine ev_bind (impl_fits n.f5 hs.1 _) ?_
 rw [d1]
 cases hf:fitsM n.f5 (decide (nm n.f0 > 0))
 ·simp only [Bool.false_eq_true,if_false]
  exact ev_eq (hj true) (by simp)
 ·simp only [if_true]
  refine ev_bind (impl_nm n.f0) (ev_bind (impl_fits n.f6 hs.2 _) ?_)
  rw [d2]
  refine ev_eq (hj _) ?_
  cases zeroM n <;> cases fitsM n.f6 (decide (nm n.f0 > 1)) <;> rfl
def walkM (st:List Int):Int->List Int->Option Int
 | a,[]=>some a
 | a,c::cs=>if c=a - 1/\0<=c then walkM st (rd st c) cs else none
def startsM:List S45->List Int->Option (List Int)
 | [],st=>some st
 | n::ns,st=>if fieldsM n=true then (match walkM st (st.length:Int) (kidsM n).reverse with|some a=>startsM ns (st++[a])|none=>none) else none
def okM (l:List S45):Bool:= decide (1<=(l.length:Int)/\(l.length:Int)<=150) && (match startsM l [] with|some st=>rd st ((l.length - 1:Nat):Int) == 0|none=>false)
def lowM (st:List Int):Prop:= ∀ (j:Nat) (h:j<st.length),0<=st[j]/\st[j]<=j
theorem walk_low {st:List Int} (hl:lowM st):∀ (cs:List Int) (a b:Int),0<=a->a<=st.length->walkM st a cs=some b->0<=b/\b<=a:= by
 intro cs
 induction cs with
 | nil=>intro a b h0 h1 h;simp [walkM] at h;omega
 | cons c cs ih =>
  intro a b h0 h1 h
  rw [walkM] at h
  split at h
  ·rename_i hc
   obtain ⟨j,rfl⟩:∃ j:Nat,c=(j:Int):= ⟨c.toNat,by omega⟩
   have hj:j<st.length:= by omega
   rw [rd_get st j hj] at h
   have:= hl j hj
   have:= ih _ _ this.1 (by omega) h
   omega
  ·cases h
theorem low_next {st:List Int} (hl:lowM st) {b:Int} (h0:0<=b) (h1:b<=st.length):lowM (st++[b]):= by
 intro j hj
 by_cases e:j<st.length
 ·rw [List.getElem_append_left e]
  exact hl j e
 ·have:j=st.length:= by simp at hj;omega
  subst this
  simp
  omega
theorem wrap_prev (a:Int) (h0:0<=a) (h:a<=1048576):wrap64 (a - 1)=a - 1:= by unfold wrap64;omega
theorem spec_s1 (l:List S45) (st:List Int) (hl:lowM st) (hn:st.length<=1048576) (ks:List Int) (hk:ks.length<=3) {R:List Int × Bool} :
  ∀ (m:Nat) (a:Int),m<=ks.length->0<=a->a<=st.length ->
  (∀ b,walkM st a (ks.take m).reverse=some b->Ev (fun k=>spec_l3Starts.l0 k l (st++[b]) ((st.length+1:Nat):Int)) R)->(walkM st a (ks.take m).reverse=none->R=([],false)) ->
  Ev (fun k=>spec_l3Starts.l1 k l st (st.length:Int) a ks ((m:Int) - 1)) R:= by
 intro m
 induction m with
 | zero =>
  intro a hm h0 h1 hs hz
  apply ev_step
  have c:¬ ((0:Nat):Int) - 1 >= 0:= by omega
  have c2:st.length<17592186044416:= by omega
  simp only [spec_l3Starts.l1,if_neg c,if_pos c2,wrap_next st.length (by omega)]
  exact hs a rfl
 | succ m ih =>
  intro a hm h0 h1 hs hz
  apply ev_step
  have e:((m+1:Nat):Int) - 1=(m:Int):= by omega
  have c:(m:Int) >= 0:= by omega
  have c1:0<=(m:Int):= by omega
  have c2:(m:Int)<(ks.length:Int):= by omega
  have hm':m<ks.length:= by omega
  have er:(ks.take (m+1)).reverse=ks[m]::(ks.take m).reverse:= by
   rw [List.take_succ_eq_append_getElem hm',List.reverse_append]
   rfl
  rw [er] at hs hz
  rw [e]
  simp only [spec_l3Starts.l1,if_pos c,if_pos c1,if_pos c2,rd_get ks m hm',wrap_prev a h0 (by omega),wrap_prev (m:Int) (by omega) (by omega)]
  generalize ks[m]=q at hs hz ⊢
  by_cases d:q=a - 1
  ·simp only [if_pos d]
   by_cases d2:q<0
   ·simp only [if_pos d2]
    rw [walkM,if_neg (by omega)] at hz
    rw [hz rfl]
    exact ev_const _
   ·have d3:0<=q:= by omega
    have d4:q<(st.length:Int):= by omega
    rw [walkM,if_pos ⟨d,d3⟩] at hz hs
    simp only [if_neg d2,if_pos d3,if_pos d4]
    obtain ⟨j,rfl⟩:∃ j:Nat,q=(j:Int):= ⟨q.toNat,by omega⟩
    have hj:j<st.length:= by omega
    have:= hl j hj
    rw [rd_get st j hj] at hs hz ⊢
    exact ih _ (by omega) this.1 (by omega) hs hz
  ·simp only [if_neg d]
   rw [walkM,if_neg (by omega)] at hz
   rw [hz rfl]
   exact ev_const _
theorem spec_s0 (l:List S45) (hn:l.length<=1048576) (hs:∀ x∈l,small x) (m:Nat):∀ (st:List Int),lowM st->st.length+m=l.length ->
  Ev (fun k=>spec_l3Starts.l0 k l st (st.length:Int)) (match startsM (l.drop st.length) st with|some s=>(s,true)|none=>([],false)):= by
 induction m with
 | zero =>
  intro st hl hm
  rw [List.drop_of_length_le (by omega)]
  apply ev_step
  have c:¬ (st.length:Int)<(l.length:Int):= by omega
  simp only [spec_l3Starts.l0,if_neg c]
  exact ev_const _
 | succ m ih =>
  intro st hl hm
  have hi:st.length<l.length:= by omega
  rw [List.drop_eq_getElem_cons hi]
  apply ev_step
  have c:(st.length:Int)<(l.length:Int):= by omega
  have c0:0<=(st.length:Int):= by omega
  simp only [spec_l3Starts.l0,if_pos c,if_pos c0,rdN_get l st.length hi,startsM]
  refine ev_bind (spec_fields l[st.length] (hs _ (List.getElem_mem hi))) ?_
  cases hf:fieldsM l[st.length]
  ·simp only [Bool.false_eq_true,if_false]
   exact ev_const _
  ·simp only [if_true]
   refine ev_bind (spec_kids l[st.length]) ?_
   have hk:= kidsM_len l[st.length]
   have ha:= ar_most l[st.length].f0
   generalize kidsM l[st.length]=ks at hk ⊢
   have e:wrap64 ((ks.length:Int) - 1)=(ks.length:Int) - 1:= by unfold wrap64;omega
   rw [e]
   refine spec_s1 l st hl (by omega) ks (by omega) ks.length st.length (by omega) (by omega) (by omega) ?_ ?_
   ·intro b hb
    rw [List.take_length] at hb
    rw [hb]
    have hw:= walk_low hl _ _ _ (by omega) (by omega) hb
    have:= ih (st++[b]) (low_next hl hw.1 hw.2) (by simp;omega)
    simpa using this
   ·intro hb
    rw [List.take_length] at hb
    rw [hb]
theorem spec_starts (l:List S45) (hn:l.length<=1048576) (hs:∀ x∈l,small x):Ev (fun k=>spec_l3Starts.f k l) (match startsM l [] with|some s=>(s,true)|none=>([],false)):= by
 have h:= spec_s0 l hn hs l.length [] (by intro j hj;simp at hj) (by simp)
 exact h
theorem starts_len:∀ (l:List S45) (st s:List Int),startsM l st=some s->s.length=st.length+l.length:= by
 intro l
 induction l with
 | nil=>intro st s h;simp [startsM] at h;subst h;simp
 | cons n ns ih =>
  intro st s h
  rw [startsM] at h
  split at h
  ·split at h
   ·have:= ih _ _ h
    simp at this ⊢
    omega
   ·cases h
  ·cases h
theorem spec_ok (l:List S45) (hn:l.length<=1048576) (hs:∀ x∈l,small x):Ev (fun k=>spec_NodesOk.f k l) (okM l):= by
 unfold spec_NodesOk.f okM
 simp only [in_some,Option.bind_some]
 by_cases h:1<=(l.length:Int)/\(l.length:Int)<=150
 rotate_left
 ·simp only [decide_eq_false h,Bool.false_eq_true,if_false]
  exact ev_const false
 simp only [decide_eq_true h,if_true,Bool.true_and]
 refine ev_bind (spec_starts l hn hs) ?_
 have e:wrap64 ((l.length:Int) - 1)=((l.length - 1:Nat):Int):= by unfold wrap64;omega
 rw [e]
 cases hst:startsM l [] with
 | none =>
  simp only [Bool.false_eq_true,if_false]
  exact ev_const false
 | some s =>
  have hlen:= starts_len l [] s hst
  simp only [List.length_nil] at hlen
  have c0:0<=((l.length - 1:Nat):Int):= by omega
  have c1:((l.length - 1:Nat):Int)<(s.length:Int):= by omega
  simp only [if_true,if_pos c0,if_pos c1]
  exact ev_const _
theorem impl_s1 (l x st:List Int) (L L2:List S45) (hx:x.length=L.length) (hp:∀ j,j<st.length->x[j]?=st[j]?) (hi:st.length<L.length) (hl:lowM st) (hn:L.length<=1048576) (ks:List Int) (hk:ks.length<=3) {R:Bool} {q:Int} :
  ∀ (m:Nat) (a:Int),m<=ks.length->0<=a->a<=st.length ->
  (∀ b,walkM st a (ks.take m).reverse=some b->Ev (fun k=>impl_NodesOk.l0 k L (x.set st.length b) L2 q ((st.length+1:Nat):Int)) R)->(walkM st a (ks.take m).reverse=none->R=false) ->
  Ev (fun k=>impl_NodesOk.l1 k L x (st.length:Int) ks a ((m:Int) - 1) L2 q (st.length:Int)) R:= by
 intro m
 induction m with
 | zero =>
  intro a hm h0 h1 hs hz
  apply ev_step
  have c:¬ ((0:Nat):Int) - 1 >= 0:= by omega
  have c2:(st.length:Int)<(x.length:Int):= by omega
  have c3:0<=(st.length:Int):= by omega
  simp only [impl_NodesOk.l1,if_neg c,if_pos c2,if_pos c3,wrap_next st.length (by omega),Int.toNat_natCast]
  exact hs a rfl
 | succ m ih =>
  intro a hm h0 h1 hs hz
  apply ev_step
  have e:((m+1:Nat):Int) - 1=(m:Int):= by omega
  have c:(m:Int) >= 0:= by omega
  have c1:0<=(m:Int):= by omega
  have c2:(m:Int)<(ks.length:Int):= by omega
  have hm':m<ks.length:= by omega
  have er:(ks.take (m+1)).reverse=ks[m]::(ks.take m).reverse:= by
   rw [List.take_succ_eq_append_getElem hm',List.reverse_append]
   rfl
  rw [er] at hs hz
  rw [e]
  simp only [impl_NodesOk.l1,if_pos c,if_pos c1,if_pos c2,rd_get ks m hm',wrap_prev a h0 (by omega),wrap_prev (m:Int) (by omega) (by omega)]
  generalize ks[m]=y at hs hz ⊢
  by_cases d0:a=0
  ·simp only [if_pos d0]
   rw [walkM,if_neg (by omega)] at hz
   rw [hz rfl]
   exact ev_const _
  ·simp only [if_neg d0]
   by_cases d:y=a - 1
   ·have d3:0<=a - 1:= by omega
    have d4:a - 1<(x.length:Int):= by omega
    simp only [if_pos d,if_pos d3,if_pos d4]
    subst d
    rw [walkM,if_pos ⟨rfl,d3⟩] at hz hs
    obtain ⟨j,hj⟩:∃ j:Nat,a - 1=(j:Int):= ⟨(a - 1).toNat,by omega⟩
    rw [hj] at hs hz ⊢
    have hj2:j<st.length:= by omega
    have:= hl j hj2
    have ex:rd x (j:Int)=st[j]:= by
     rw [rd_get x j (by omega)]
     have:= hp j hj2
     rw [List.getElem?_eq_getElem (by omega),List.getElem?_eq_getElem hj2] at this
     exact Option.some.inj this
    rw [ex]
    rw [rd_get st j hj2] at hs hz
    exact ih _ (by omega) this.1 (by omega) hs hz
   ·simp only [if_neg d]
    rw [walkM,if_neg (by omega)] at hz
    rw [hz rfl]
    exact ev_const _
theorem impl_s0 (l:List S45) (h1:1<=l.length) (hn:l.length<=1048576) (hs:∀ x∈l,small x) (m:Nat):∀ (st x:List Int),lowM st->x.length=l.length->(∀ j,j<st.length->x[j]?=st[j]?)->st.length+m=l.length ->
  Ev (fun k=>impl_NodesOk.l0 k l x l (l.length:Int) (st.length:Int)) (match startsM (l.drop st.length) st with|some s=>rd s ((l.length - 1:Nat):Int) == 0|none=>false):= by
 induction m with
 | zero =>
  intro st x hl hx hp hm
  rw [List.drop_of_length_le (by omega)]
  apply ev_step
  have c:¬ (st.length:Int)<(l.length:Int):= by omega
  have e:wrap64 ((l.length:Int) - 1)=((l.length - 1:Nat):Int):= by unfold wrap64;omega
  have c0:0<=((l.length - 1:Nat):Int):= by omega
  have c1:((l.length - 1:Nat):Int)<(x.length:Int):= by omega
  have ex:x=st:= all_grown (by omega) hp
  simp only [impl_NodesOk.l0,if_neg c,e,if_pos c0,if_pos c1,startsM]
  rw [ex]
  exact ev_const _
 | succ m ih =>
  intro st x hl hx hp hm
  have hi:st.length<l.length:= by omega
  rw [List.drop_eq_getElem_cons hi]
  apply ev_step
  have c:(st.length:Int)<(l.length:Int):= by omega
  have c0:0<=(st.length:Int):= by omega
  simp only [impl_NodesOk.l0,if_pos c,if_pos c0,rdN_get l st.length hi,startsM]
  refine ev_bind (impl_fields l[st.length] (hs _ (List.getElem_mem hi))) ?_
  cases hf:fieldsM l[st.length]
  ·simp only [Bool.false_eq_true,if_false]
   exact ev_const _
  ·simp only [if_true]
   refine ev_bind (impl_kids l[st.length]) ?_
   have hk:= kidsM_len l[st.length]
   have ha:= ar_most l[st.length].f0
   generalize kidsM l[st.length]=ks at hk ⊢
   have e:wrap64 ((ks.length:Int) - 1)=(ks.length:Int) - 1:= by unfold wrap64;omega
   rw [e]
   refine impl_s1 [] x st l l hx hp hi hl hn ks (by omega) ks.length st.length (by omega) (by omega) (by omega) ?_ ?_
   ·intro b hb
    rw [List.take_length] at hb
    rw [hb]
    have hw:= walk_low hl _ _ _ (by omega) (by omega) hb
    have:= ih (st++[b]) (x.set st.length b) (low_next hl hw.1 hw.2) (by rw [List.length_set];exact hx) ?_ (by simp;omega)
    ·simpa using this
    ·intro j hj
     by_cases e:j<st.length
     ·rw [List.getElem?_set_ne (by omega),List.getElem?_append_left e]
      exact hp j e
     ·have:j=st.length:= by simp at hj;omega
      subst this
      rw [List.getElem?_set_self (by omega)]
      simp
   ·intro hb
    rw [List.take_length] at hb
    rw [hb]
theorem impl_ok (l:List S45) (hn:l.length<=1048576) (hs:∀ x∈l,small x):Ev (fun k=>impl_NodesOk.f k l) (okM l):= by
 unfold impl_NodesOk.f okM
 simp only [in_same,in_some,Option.bind_some]
 by_cases h:1<=(l.length:Int)/\(l.length:Int)<=150
 rotate_left
 ·simp only [decide_eq_false h,Bool.false_eq_true,if_false]
  exact ev_const false
 simp only [decide_eq_true h,if_true,Bool.true_and]
 have c0:0<=(l.length:Int):= by omega
 have c1:((l.length:Int)).toNat<=35184372088832:= by omega
 simp only [if_pos c0,if_pos c1]
 exact impl_s0 l (by omega) hn hs l.length [] _ (by intro j hj;simp at hj) (by simp) (by intro j hj;simp at hj) (by simp)
theorem walk_more {st:List Int} (t:List Int) (hl:lowM st):∀ (cs:List Int) (a b:Int),0<=a->a<=st.length->walkM st a cs=some b->walkM (st++t) a cs=some b:= by
 intro cs
 induction cs with
 | nil=>intro a b _ _ h;exact h
 | cons c cs ih =>
  intro a b h0 h1 h
  rw [walkM] at h ⊢
  split at h
  ·rename_i hc
   rw [if_pos hc]
   obtain ⟨j,rfl⟩:∃ j:Nat,c=(j:Int):= ⟨c.toNat,by omega⟩
   have hj:j<st.length:= by omega
   rw [rd_get st j hj] at h
   rw [rd_get (st++t) j (by simp;omega),List.getElem_append_left hj]
   have:= hl j hj
   exact ih _ _ this.1 (by omega) h
  ·cases h
structure Tree (l:List S45) (st:List Int):Prop where
 len:st.length=l.length
 low:lowM st
 node:∀ (i:Nat) (h:i<l.length),fieldsM l[i]=true/\walkM st (i:Int) (kidsM l[i]).reverse=some (st[i]'(by omega))
theorem starts_tree:∀ (ns:List S45) (st0 st:List Int),lowM st0->startsM ns st0=some st->lowM st/\(∃ t,st=st0++t)/\∀ (i:Nat) (h:i<ns.length) (h2:st0.length+i<st.length),fieldsM ns[i]=true/\walkM st ((st0.length+i:Nat):Int) (kidsM ns[i]).reverse=some st[st0.length+i]:= by
 intro ns
 induction ns with
 | nil=>intro st0 st hl h;simp [startsM] at h;subst h;exact ⟨hl,⟨[],by simp⟩,fun i h=>by simp at h⟩
 | cons n ns ih =>
  intro st0 st hl h
  rw [startsM] at h
  split at h
  ·rename_i hf
   split at h
   ·rename_i a hw
    have hb:= walk_low hl _ _ _ (by omega) (by omega) hw
    obtain ⟨h1,⟨t,rfl⟩,h3⟩:= ih _ _ (low_next hl hb.1 hb.2) h
    refine ⟨h1,⟨[a]++t,by simp⟩,?_⟩
    intro i hi h2
    cases i with
    | zero =>
     refine ⟨hf,?_⟩
     have:= walk_more ([a]++t) hl _ _ _ (by omega) (by omega) hw
     simp only [List.getElem_cons_zero,Nat.add_zero]
     rw [<- List.append_assoc] at this
     rw [this]
     congr 1
     simp
    | succ i =>
     have e:st0.length+(i+1)=(st0++[a]).length+i:= by simp;omega
     have:= h3 i (by simpa using hi) (by omega)
     simp only [List.getElem_cons_succ]
     refine ⟨this.1,?_⟩
     have h4:= this.2
     simp only [e]
     exact h4
   ·cases h
  ·cases h
theorem tree_of {l:List S45} {st:List Int} (h:startsM l []=some st):Tree l st:= by
 have h0:lowM ([]:List Int):= by intro j hj;simp at hj
 obtain ⟨h1,_,h3⟩:= starts_tree l [] st h0 h
 have hlen:= starts_len l [] st h
 simp only [List.length_nil,Nat.zero_add] at hlen
 refine ⟨hlen,h1,fun i hi=>?_⟩
 have:= h3 i hi (by simp;omega)
 simpa using this
theorem ok_tree {l:List S45} (h:okM l=true):1<=l.length/\l.length<=150/\∃ st,startsM l []=some st/\Tree l st/\rd st ((l.length - 1:Nat):Int)=0:= by
 unfold okM at h
 rw [Bool.and_eq_true] at h
 obtain ⟨h1,h2⟩:= h
 have h1:= of_decide_eq_true h1
 refine ⟨by omega,by omega,?_⟩
 cases hs:startsM l [] with
 | none=>rw [hs] at h2;cases h2
 | some st=>rw [hs] at h2;exact ⟨st,rfl,tree_of hs,by simpa using h2⟩
theorem walk_split (st:List Int) (ys:List Int):∀ (xs:List Int) (a:Int),walkM st a (xs++ys)=(walkM st a xs).bind fun b=>walkM st b ys:= by
 intro xs
 induction xs with
 | nil=>intro a;rfl
 | cons x xs ih =>
  intro a
  simp only [List.cons_append,walkM]
  split
  ·exact ih _
  ·rfl
theorem walk_kid {st:List Int} (hl:lowM st):∀ (cs:List Int) (a b:Int),0<=a->a<=st.length->walkM st a cs=some b->∀ c∈cs,0<=c/\c<a:= by
 intro cs
 induction cs with
 | nil=>intro a b _ _ _ c hc;cases hc
 | cons x cs ih =>
  intro a b h0 h1 h c hc
  rw [walkM] at h
  split at h
  ·rename_i hx
   obtain ⟨j,rfl⟩:∃ j:Nat,x=(j:Int):= ⟨x.toNat,by omega⟩
   have hj:j<st.length:= by omega
   rw [rd_get st j hj] at h
   have:= hl j hj
   rcases List.mem_cons.1 hc with rfl|hc
   ·omega
   ·have:= ih _ _ this.1 (by omega) h c hc
    omega
  ·cases h
theorem Tree.kid {l:List S45} {st:List Int} (h:Tree l st) (i:Nat) (hi:i<l.length):∀ c∈kidsM l[i],0<=c/\c<i:= by
 intro c hc
 have:= h.len
 exact walk_kid h.low _ _ _ (by omega) (by omega) (h.node i hi).2 c (List.mem_reverse.2 hc)
theorem in_place (l:List S45) (i:Int) (hn:1<=l.length/\l.length<=150):spec_l1In.f i 0 (wrap64 ((l.length:Int) - 1))=some (decide (0<=i/\i<l.length)):= by
 have e:wrap64 ((l.length:Int) - 1)=(l.length:Int) - 1:= by unfold wrap64;omega
 rw [e,in_some]
 congr 1
 exact decide_eq_decide.2 (by omega)
theorem low_rd {st:List Int} (hl:lowM st) (c:Int) (h0:0<=c) (h1:c<st.length):0<=rd st c/\rd st c<=c:= by
 obtain ⟨j,rfl⟩:∃ j:Nat,c=(j:Int):= ⟨c.toNat,by omega⟩
 rw [rd_get st j (by omega)]
 exact hl j (by omega)
theorem walk_cover {st:List Int} (hl:lowM st):∀ (cs:List Int) (a b:Int),0<=a->a<=st.length->walkM st a cs=some b->∀ j:Int,b<=j->j<a->∃ c∈cs,rd st c<=j/\j<=c/\b<=rd st c:= by
 intro cs
 induction cs with
 | nil=>intro a b h0 h1 h j hb hj;simp [walkM] at h;omega
 | cons c cs ih =>
  intro a b h0 h1 h j hb hj
  rw [walkM] at h
  split at h
  ·rename_i hc
   have g:= low_rd hl c hc.2 (by omega)
   by_cases e:rd st c<=j
   ·exact ⟨c,List.mem_cons_self,e,by omega,(walk_low hl _ _ _ g.1 (by omega) h).2⟩
   ·obtain ⟨d,d1,d2⟩:= ih _ _ g.1 (by omega) h j hb (by omega)
    exact ⟨d,List.mem_cons_of_mem _ d1,d2⟩
  ·cases h
theorem walk_gap {st:List Int} (hl:lowM st):∀ (cs:List Int) (a b:Int),0<=a->a<=st.length->walkM st a cs=some b->∀ c∈cs,∀ j:Int,c<j->j<a->∃ d∈cs,rd st d<=j/\j<=d/\c<rd st d:= by
 intro cs
 induction cs with
 | nil=>intro a b h0 h1 h c hc;cases hc
 | cons x cs ih =>
  intro a b h0 h1 h c hc j hj1 hj2
  rw [walkM] at h
  split at h
  ·rename_i hx
   have g:= low_rd hl x hx.2 (by omega)
   rcases List.mem_cons.1 hc with rfl|hc
   ·omega
   ·have gk:= walk_kid hl _ _ _ g.1 (by omega) h c hc
    by_cases e:rd st x<=j
    ·exact ⟨x,List.mem_cons_self,e,by omega,gk.2⟩
    ·obtain ⟨d,d1,d2⟩:= ih _ _ g.1 (by omega) h c hc j hj1 (by omega)
     exact ⟨d,List.mem_cons_of_mem _ d1,d2⟩
  ·cases h
theorem walk_above {st:List Int} (hl:lowM st):∀ (cs:List Int) (a b:Int),0<=a->a<=st.length->walkM st a cs=some b->∀ c∈cs,b<=rd st c:= by
 intro cs
 induction cs with
 | nil=>intro a b h0 h1 h c hc;cases hc
 | cons x cs ih =>
  intro a b h0 h1 h c hc
  rw [walkM] at h
  split at h
  ·rename_i hx
   have g:= low_rd hl x hx.2 (by omega)
   rcases List.mem_cons.1 hc with rfl|hc
   ·exact (walk_low hl _ _ _ g.1 (by omega) h).2
   ·exact ih _ _ g.1 (by omega) h c hc
  ·cases h
theorem Tree.nest {l:List S45} {st:List Int} (h:Tree l st) (m:Nat):∀ (i j:Nat),i<m->i<l.length->rd st i<=j->j<=i->rd st i<=rd st j:= by
 induction m with
 | zero=>intro i j h0;omega
 | succ m ih =>
  intro i j h0 hi h1 h2
  by_cases e:j=i
  ·subst e;exact Int.le_refl _
  ·have hw:= (h.node i hi).2
   have hlen:= h.len
   rw [rd_get st i (by omega)] at h1 ⊢
   obtain ⟨c,c1,c2,c3,c4⟩:= walk_cover h.low _ _ _ (by omega) (by omega) hw (j:Int) h1 (by omega)
   have hk:= h.kid i hi c (List.mem_reverse.1 c1)
   obtain ⟨q,rfl⟩:∃ q:Nat,c=(q:Int):= ⟨c.toNat,by omega⟩
   have:= ih q j (by omega) (by omega) c2 (by omega)
   omega
theorem Tree.one {l:List S45} {st:List Int} (h:Tree l st) (a b:Nat) (hab:a<b) (hb:b<l.length) (c:Int) (ca:c∈kidsM (l[a]'(by omega))) (cb:c∈kidsM l[b]):False:= by
 have hlen:= h.len
 have ka:= h.kid a (by omega) c ca
 obtain ⟨d,d1,d2,d3,d4⟩:= walk_gap h.low _ _ _ (by omega) (by omega) (h.node b hb).2 c (List.mem_reverse.2 cb) (a:Int) (by omega) (by omega)
 have kd:= h.kid b hb d (List.mem_reverse.1 d1)
 obtain ⟨q,rfl⟩:∃ q:Nat,d=(q:Int):= ⟨d.toNat,by omega⟩
 have h1:= h.nest (q+1) q a (by omega) (by omega) d2 (by omega)
 have h2:= walk_above h.low _ _ _ (by omega) (by omega) (h.node a (by omega)).2 c (List.mem_reverse.2 ca)
 have h3:= low_rd h.low c (by omega) (by omega)
 rw [rd_get st a (by omega)] at h1
 omega
def kidsAt (l:List S45) (i:Nat):List Int:= match l[i]? with|some n=>kidsM n|none=>[]
theorem kidsAt_get (l:List S45) (i:Nat) (h:i<l.length):kidsAt l i=kidsM l[i]:= by unfold kidsAt;rw [List.getElem?_eq_getElem h]
def upM (l:List S45):Nat->Int->Int
 | 0,_=>-1
 | m+1,c=>if c∈kidsAt l m then (m:Int) else upM l m c
theorem up_none (l:List S45) (c:Int):∀ m,(∀ j,j<m->¬ c∈kidsAt l j)->upM l m c=-1:= by
 intro m
 induction m with
 | zero=>intro _;rfl
 | succ m ih =>
  intro h
  rw [upM,if_neg (h m (by omega))]
  exact ih (fun j hj=>h j (by omega))
theorem up_hit (l:List S45) (c:Int) (k:Nat) (hk:c∈kidsAt l k):∀ m,k<m->(∀ j,k<j->j<m->¬ c∈kidsAt l j)->upM l m c=k:= by
 intro m
 induction m with
 | zero=>intro h;omega
 | succ m ih =>
  intro h1 h2
  by_cases e:k=m
  ·subst e
   rw [upM,if_pos hk]
  ·rw [upM,if_neg (h2 m (by omega) (by omega))]
   exact ih (by omega) (fun j a b=>h2 j a (by omega))
theorem up_range (l:List S45) (c:Int):∀ m,upM l m c<m/\-1<=upM l m c/\(0<=upM l m c->∃ k:Nat,upM l m c=k/\k<m/\c∈kidsAt l k):= by
 intro m
 induction m with
 | zero=>simp [upM]
 | succ m ih =>
  rw [upM]
  split
  ·rename_i h
   exact ⟨by omega,by omega,fun _=>⟨m,rfl,by omega,h⟩⟩
  ·refine ⟨by omega,ih.2.1,fun h=>?_⟩
   obtain ⟨k,k1,k2,k3⟩:= ih.2.2 h
   exact ⟨k,k1,by omega,k3⟩
theorem Tree.up_lt {l:List S45} {st:List Int} (h:Tree l st) (c:Int) (hu:0<=upM l l.length c):c<upM l l.length c:= by
 obtain ⟨k,k1,k2,k3⟩:= (up_range l c l.length).2.2 hu
 rw [kidsAt_get l k k2] at k3
 have:= h.kid k k2 c k3
 omega
theorem Tree.up_is {l:List S45} {st:List Int} (h:Tree l st) (c:Int) (k:Nat) (hk:k<l.length) (hc:c∈kidsM l[k]):upM l l.length c=k:= by
 refine up_hit l c k (by rw [kidsAt_get l k hk];exact hc) l.length hk ?_
 intro j h1 h2 h3
 rw [kidsAt_get l j h2] at h3
 exact h.one k j h1 h2 c hc h3
theorem has_loop (ks:List Int) (hk:ks.length<=1048576) (c:Int) (m:Nat):∀ i:Nat,i+m=ks.length->Ev (fun k=>spec_l4Has.l0 k ks c i) (decide (c∈ks.drop i)):= by
 induction m with
 | zero =>
  intro i hi
  have d:¬ (i:Int)<(ks.length:Int):= by omega
  rw [List.drop_of_length_le (by omega)]
  apply ev_step
  simp only [spec_l4Has.l0,if_neg d]
  exact ev_eq (ev_const false) (by simp)
 | succ m ih =>
  intro i hi
  have d:(i:Int)<(ks.length:Int):= by omega
  have d0:0<=(i:Int):= by omega
  have hi':i<ks.length:= by omega
  rw [List.drop_eq_getElem_cons hi']
  apply ev_step
  simp only [spec_l4Has.l0,if_pos d,if_pos d0,rd_get ks i hi',wrap_next i (by omega)]
  by_cases e:ks[i]=c
  ·simp only [if_pos e]
   exact ev_eq (ev_const true) (by simp [e])
  ·simp only [if_neg e]
   refine ev_eq (ih (i+1) (by omega)) ?_
   apply decide_eq_decide.2
   rw [List.mem_cons]
   exact ⟨Or.inr,fun h=>h.resolve_left (fun h=>e h.symm)⟩
theorem spec_has (ks:List Int) (hk:ks.length<=1048576) (c:Int):Ev (fun k=>spec_l4Has.f k ks c) (decide (c∈ks)):= by
 have h:= has_loop ks hk c ks.length 0 (by omega)
 rw [List.drop_zero] at h
 exact h
theorem spec_up_loop {l:List S45} {st:List Int} (h:Tree l st) (hn:l.length<=1048576) (c:Int) (m:Nat):∀ i:Nat,i+m=l.length->(∀ j,j<i->¬ c∈kidsAt l j)->Ev (fun k=>spec_ParentOf.l0 k l c i) (upM l l.length c):= by
 induction m with
 | zero =>
  intro i hi hp
  have d:¬ (i:Int)<(l.length:Int):= by omega
  apply ev_step
  simp only [spec_ParentOf.l0,if_neg d]
  rw [up_none l c l.length (fun j hj=>hp j (by omega))]
  exact ev_const _
 | succ m ih =>
  intro i hi hp
  have d:(i:Int)<(l.length:Int):= by omega
  have d0:0<=(i:Int):= by omega
  have hi':i<l.length:= by omega
  apply ev_step
  simp only [spec_ParentOf.l0,if_pos d,if_pos d0,rdN_get l i hi',wrap_next i (by omega)]
  refine ev_bind (spec_kids l[i]) ?_
  refine ev_bind (spec_has _ (by rw [kidsM_len];have:= ar_most l[i].f0;omega) c) ?_
  by_cases e:c∈kidsM l[i]
  ·simp only [decide_eq_true e,if_true]
   rw [h.up_is c i hi' e]
   exact ev_const _
  ·simp only [decide_eq_false e,Bool.false_eq_true,if_false]
   refine ih (i+1) (by omega) (fun j hj=>?_)
   by_cases q:j=i
   ·subst q
    rw [kidsAt_get l j hi']
    exact e
   ·exact hp j (by omega)
theorem rd_set (x:List Int) (a:Nat) (v:Int) (c:Nat) (hc:c<x.length):rd (x.set a v) c=if c=a then v else rd x c:= by
 rw [rd_get _ c (by rw [List.length_set];exact hc),rd_get x c hc,List.getElem_set]
 by_cases e:c=a
 ·rw [if_pos e,if_pos e.symm]
 ·rw [if_neg e,if_neg (fun h=>e h.symm)]
def upsM (l:List S45):List Int:= (List.range l.length).map fun (c:Nat)=>upM l l.length (c:Int)
theorem ups_len (l:List S45):(upsM l).length=l.length:= by unfold upsM;simp
theorem ups_rd (l:List S45) (c:Nat) (hc:c<l.length):rd (upsM l) c=upM l l.length c:= by
 rw [rd_get _ c (by rw [ups_len];exact hc)]
 unfold upsM
 simp
theorem impl_up2 {l:List S45} (hn:l.length<=1048576) (i:Nat) (hi:i<l.length) (ks:List Int) (hk:ks.length<=3) (hb:∀ c∈ks,0<=c/\c<l.length) (old:Nat->Int) {R:List Int} (m:Nat) :
  ∀ (j:Nat) (x:List Int),j+m=ks.length->x.length=l.length->(∀ c:Nat,c<l.length->rd x c=if (c:Int)∈ks.take j then (i:Int) else old c) ->
  (∀ y:List Int,y.length=l.length->(∀ c:Nat,c<l.length->rd y c=if (c:Int)∈ks then (i:Int) else old c)->Ev (fun k=>impl_parents.l1 k y l (l.length:Int) ((i+1:Nat):Int)) R) ->
  Ev (fun k=>impl_parents.l2 k x (i:Int) l (l.length:Int) (i:Int) ks (ks.length:Int) (j:Int)) R:= by
 induction m with
 | zero =>
  intro j x hj hx hp hd
  have d:¬ (j:Int)<(ks.length:Int):= by omega
  apply ev_step
  simp only [impl_parents.l2,if_neg d,wrap_next i (by omega)]
  rw [List.take_of_length_le (by omega)] at hp
  exact hd x hx hp
 | succ m ih =>
  intro j x hj hx hp hd
  have d:(j:Int)<(ks.length:Int):= by omega
  have d0:0<=(j:Int):= by omega
  have hj':j<ks.length:= by omega
  have hb':= hb ks[j] (List.getElem_mem hj')
  have e1:ks[j]<(x.length:Int):= by omega
  apply ev_step
  simp only [impl_parents.l2,if_pos d,if_pos d0,rd_get ks j hj',if_pos hb'.1,if_pos e1,wrap_next j (by omega)]
  refine ih (j+1) _ (by omega) (by rw [List.length_set];exact hx) ?_ hd
  intro c hc
  rw [rd_set _ _ _ _ (by omega),hp c hc,List.take_succ_eq_append_getElem hj']
  by_cases e:c=(ks[j]).toNat
  ·have:(c:Int)∈ks.take j++[ks[j]]:= List.mem_append_right _ (by rw [List.mem_singleton];omega)
   rw [if_pos e,if_pos this]
  ·rw [if_neg e]
   have:((c:Int)∈ks.take j++[ks[j]])↔((c:Int)∈ks.take j):= by
    rw [List.mem_append,List.mem_singleton]
    exact ⟨fun h=>h.resolve_right (by omega),Or.inl⟩
   simp only [this]
theorem impl_up1 {l:List S45} {st:List Int} (h:Tree l st) (hn:l.length<=1048576) (m:Nat):∀ (i:Nat) (x:List Int),i+m=l.length->x.length=l.length->(∀ c:Nat,c<l.length->rd x c=upM l i c) ->
  Ev (fun k=>impl_parents.l1 k x l (l.length:Int) (i:Int)) (upsM l):= by
 induction m with
 | zero =>
  intro i x hi hx hp
  have d:¬ (i:Int)<(l.length:Int):= by omega
  apply ev_step
  simp only [impl_parents.l1,if_neg d]
  have e:i=l.length:= by omega
  subst e
  refine ev_eq (ev_const x) ?_
  apply List.ext_getElem (by rw [hx,ups_len])
  intro c h1 h2
  have:= hp c (by omega)
  rw [<- ups_rd l c (by omega),rd_get _ _ h1,rd_get _ _ h2] at this
  exact this
 | succ m ih =>
  intro i x hi hx hp
  have d:(i:Int)<(l.length:Int):= by omega
  have d0:0<=(i:Int):= by omega
  have hi':i<l.length:= by omega
  apply ev_step
  simp only [impl_parents.l1,if_pos d,if_pos d0,rdN_get l i hi']
  refine ev_bind (impl_kids l[i]) ?_
  refine impl_up2 hn i hi' (kidsM l[i]) (by rw [kidsM_len];exact ar_most _) (fun c hc=>by have:= h.kid i hi' c hc;omega) (fun c=>upM l i c) (kidsM l[i]).length 0 x (by omega) hx (by intro c hc;rw [hp c hc];simp) ?_
  intro y hy hq
  refine ih (i+1) y (by omega) hy ?_
  intro c hc
  rw [hq c hc,upM,kidsAt_get l i hi']
theorem impl_up0 {l:List S45} {st:List Int} (h:Tree l st) (hn:l.length<=1048576) (m:Nat):∀ (i:Nat) (x:List Int),i+m=l.length->x.length=l.length->(∀ c:Nat,c<i->rd x c=-1) ->
  Ev (fun k=>impl_parents.l0 k l x (l.length:Int) (i:Int)) (upsM l):= by
 induction m with
 | zero =>
  intro i x hi hx hp
  have d:¬ (i:Int)<(l.length:Int):= by omega
  apply ev_step
  simp only [impl_parents.l0,if_neg d]
  exact impl_up1 h hn l.length 0 x (by omega) hx (fun c hc=>hp c (by omega))
 | succ m ih =>
  intro i x hi hx hp
  have d:(i:Int)<(l.length:Int):= by omega
  have d0:0<=(i:Int):= by omega
  have d1:(i:Int)<(x.length:Int):= by omega
  apply ev_step
  simp only [impl_parents.l0,if_pos d,if_pos d0,if_pos d1,wrap_next i (by omega),Int.toNat_natCast]
  refine ih (i+1) _ (by omega) (by rw [List.length_set];exact hx) ?_
  intro c hc
  rw [rd_set _ _ _ _ (by omega)]
  by_cases e:c=i
  ·rw [if_pos e]
  ·rw [if_neg e]
   exact hp c (by omega)
theorem impl_ups {l:List S45} {st:List Int} (h:Tree l st) (hn:l.length<=1048576):Ev (fun k=>impl_parents.f k l) (upsM l):= by
 unfold impl_parents.f
 have c0:0<=(l.length:Int):= by omega
 have c1:((l.length:Int)).toNat<=35184372088832:= by omega
 rw [Int.toNat_natCast] at c1
 simp only [if_pos c0,Int.toNat_natCast,if_pos c1,Option.bind_some,List.length_replicate]
 exact impl_up0 h hn l.length 0 _ (by omega) (by simp) (fun c hc=>by omega)
def parentM (l:List S45) (i:Int):Int:= if okM l=true then upM l l.length i else -1
theorem spec_parent (l:List S45) (i:Int) (hn:l.length<=1048576) (hs:∀ x∈l,small x):Ev (fun k=>spec_ParentOf.f k l i) (parentM l i):= by
 unfold spec_ParentOf.f parentM
 refine ev_bind (spec_ok l hn hs) ?_
 cases ho:okM l
 ·simpa using ev_const (-1)
 ·obtain ⟨n1,n2,st,e1,tr,e2⟩:= ok_tree ho
  simp only [if_true]
  exact spec_up_loop tr hn i l.length 0 (by omega) (fun j hj=>by omega)
def bnM (n:S45) (kid:Int):List ByteArray × List Int :=
 if n.f0=3 then ([n.f5],[0]) else if n.f0=5\/n.f0=19 then (if kid=n.f2 then ([n.f5],[0]) else ([],[]))
 else if n.f0=6 then (if kid=n.f1 then ([n.f6,n.f5],[1,0]) else ([n.f5],[0]))
 else if n.f0=14 then (if kid=n.f3 then ([n.f6,n.f5],[1,0]) else ([],[])) else ([],[])
theorem bn_len (n:S45) (kid:Int):(bnM n kid).1.length=(bnM n kid).2.length/\(bnM n kid).1.length<=2:= by
 unfold bnM
 repeat' split
 all_goals simp
theorem spec_bn (n:S45) (kid:Int):Ev (fun k=>spec_l6Bound.f k n.f0 n.f1 n.f2 n.f3 n.f4 n.f5 n.f6 kid) (bnM n kid):= by
 have j0:∀ b:Bool,¬ n.f0=3->(b=true↔n.f0=5\/n.f0=19)->Ev (fun k=>spec_l6Bound.j0 k kid n.f0 b n.f0 n.f1 n.f2 n.f3 n.f4 n.f5 n.f6) (bnM n kid):= by
  intro b h3 hb
  apply ev_step
  simp only [spec_l6Bound.j0]
  unfold bnM
  rw [if_neg h3]
  by_cases h:n.f0=5\/n.f0=19
  ·rw [hb.2 h,if_pos h]
   simp only [if_true]
   split <;> exact ev_const _
  ·have:b=false:= by
    cases b
    ·rfl
    ·exact absurd (hb.1 rfl) h
   rw [this,if_neg h]
   simp only [Bool.false_eq_true,if_false]
   split
   ·split <;> exact ev_const _
   ·split
    ·split <;> exact ev_const _
    ·exact ev_const _
 unfold spec_l6Bound.f
 by_cases h3:n.f0=3
 ·simp only [if_pos h3]
  refine ev_eq (ev_const _) ?_
  unfold bnM
  rw [if_pos h3]
 ·simp only [if_neg h3]
  by_cases h5:n.f0=5
  ·simp only [if_pos h5]
   exact j0 _ h3 (by simp [h5])
  ·simp only [if_neg h5]
   exact j0 _ h3 (by simp [h5])
theorem impl_bn (n:S45) (kid:Int):Ev (fun k=>impl_bindsIn.f k n.f0 n.f1 n.f2 n.f3 n.f4 n.f5 n.f6 kid) (bnM n kid):= by
 have j2:∀ b:Bool,¬ n.f0=3->¬ (n.f0=5/\kid=n.f2)->¬ (n.f0=19/\kid=n.f2)->(b=true↔(n.f0=6/\kid=n.f1)\/(n.f0=14/\kid=n.f3))->Ev (fun k=>impl_bindsIn.j2 k b n.f0 n.f1 n.f2 n.f3 n.f4 n.f5 n.f6) (bnM n kid):= by
  intro b h3 h5 h19 hb
  apply ev_step
  simp only [impl_bindsIn.j2]
  unfold bnM
  rw [if_neg h3]
  by_cases e5:n.f0=5\/n.f0=19
  ·have ek:¬ kid=n.f2:= fun ek=>e5.elim (fun e=>h5 ⟨e,ek⟩) (fun e=>h19 ⟨e,ek⟩)
   have:b=false:= by
    cases b
    ·rfl
    ·have:= hb.1 rfl
     omega
   rw [this,if_pos e5,if_neg ek]
   have e6:¬ n.f0=6:= by omega
   simp only [Bool.false_eq_true,if_false,if_neg e6]
   exact ev_const _
  ·rw [if_neg e5]
   by_cases e6:n.f0=6
   ·rw [if_pos e6]
    by_cases ek:kid=n.f1
    ·rw [hb.2 (Or.inl ⟨e6,ek⟩),if_pos ek]
     simp only [if_true]
     first|exact ev_const _|(rw [if_pos e6];exact ev_const _)
    ·have:b=false:= by
      cases b
      ·rfl
      ·have:= hb.1 rfl
       omega
     rw [this,if_neg ek]
     simp only [Bool.false_eq_true,if_false,if_pos e6]
     exact ev_const _
   ·rw [if_neg e6]
    by_cases e14:n.f0=14
    ·rw [if_pos e14]
     by_cases ek:kid=n.f3
     ·rw [hb.2 (Or.inr ⟨e14,ek⟩),if_pos ek]
      simp only [if_true]
      first|exact ev_const _|(rw [if_neg e6];exact ev_const _)
     ·have:b=false:= by
       cases b
       ·rfl
       ·have:= hb.1 rfl
        omega
      rw [this,if_neg ek]
      simp only [Bool.false_eq_true,if_false,if_neg e6]
      exact ev_const _
    ·have:b=false:= by
      cases b
      ·rfl
      ·have:= hb.1 rfl
       omega
     rw [this,if_neg e14]
     simp only [Bool.false_eq_true,if_false,if_neg e6]
     exact ev_const _
 have j1:∀ b:Bool,¬ n.f0=3->¬ (n.f0=5/\kid=n.f2)->¬ (n.f0=19/\kid=n.f2)->(b=true↔n.f0=6/\kid=n.f1)->Ev (fun k=>impl_bindsIn.j1 k kid b n.f0 n.f1 n.f2 n.f3 n.f4 n.f5 n.f6) (bnM n kid):= by
  intro b h3 h5 h19 hb
  apply ev_step
  simp only [impl_bindsIn.j1]
  by_cases h:n.f0=6/\kid=n.f1
  ·rw [hb.2 h]
   simp only [if_true]
   exact j2 true h3 h5 h19 (by simp [h])
  ·have:b=false:= by
    cases b
    ·rfl
    ·exact absurd (hb.1 rfl) h
   rw [this]
   simp only [Bool.false_eq_true,if_false]
   by_cases e14:n.f0=14
   ·simp only [if_pos e14]
    refine j2 _ h3 h5 h19 ?_
    rw [beq_iff_eq]
    omega
   ·simp only [if_neg e14]
    refine j2 false h3 h5 h19 ?_
    constructor
    ·intro q;cases q
    ·intro q;omega
 have j0:∀ b:Bool,(b=true↔n.f0=3\/(n.f0=5/\kid=n.f2)\/(n.f0=19/\kid=n.f2))->Ev (fun k=>impl_bindsIn.j0 k kid b n.f0 n.f1 n.f2 n.f3 n.f4 n.f5 n.f6) (bnM n kid):= by
  intro b hb
  apply ev_step
  simp only [impl_bindsIn.j0]
  by_cases h:n.f0=3\/(n.f0=5/\kid=n.f2)\/(n.f0=19/\kid=n.f2)
  ·rw [hb.2 h]
   simp only [if_true]
   refine ev_eq (ev_const _) ?_
   unfold bnM
   by_cases h3:n.f0=3
   ·rw [if_pos h3]
   ·rw [if_neg h3,if_pos (by omega),if_pos (by omega)]
  ·have:b=false:= by
    cases b
    ·rfl
    ·exact absurd (hb.1 rfl) h
   rw [this]
   simp only [Bool.false_eq_true,if_false]
   by_cases e6:n.f0=6
   ·simp only [if_pos e6]
    refine j1 _ (by omega) (by omega) (by omega) ?_
    rw [beq_iff_eq]
    omega
   ·simp only [if_neg e6]
    refine j1 false (by omega) (by omega) (by omega) ?_
    constructor
    ·intro q;cases q
    ·intro q;omega
 unfold impl_bindsIn.f
 by_cases h3:n.f0=3
 ·simp only [if_pos h3]
  exact j0 _ (by simp [h3])
 ·simp only [if_neg h3]
  by_cases h5:n.f0=5
  ·simp only [if_pos h5]
   refine j0 _ ?_
   rw [beq_iff_eq]
   omega
  ·simp only [if_neg h5]
   by_cases h19:n.f0=19
   ·simp only [if_pos h19]
    refine j0 _ ?_
    rw [beq_iff_eq]
    omega
   ·simp only [if_neg h19]
    refine j0 false ?_
    constructor
    ·intro q;cases q
    ·intro q;omega
def seekM:List ByteArray->List Int->ByteArray->Option Int
 | n::ns,r::rs,s=>if n.toList=s.toList then some r else seekM ns rs s
 | _,_,_=>none
def binderM (l:List S45):Nat->Int->ByteArray->Int × Int
 | 0,_,_=>(-1,-1)
 | m+1,i,s=>if 0<=upM l l.length i then (match seekM (bnM (rd_T45 l (upM l l.length i)) i).1 (bnM (rd_T45 l (upM l l.length i)) i).2 s with|some r=>(upM l l.length i,r)|none=>binderM l m (upM l l.length i) s) else (-1,-1)
theorem spec_seek (l:List S45) (x u:Nat) (hx:x<l.length) (hn:l.length<=1048576) (ns:List ByteArray) (rs:List Int) (hl:ns.length=rs.length) (h2:ns.length<=2) {R:Int × Int} (m:Nat):∀ j:Nat,j+m=ns.length ->
  (∀ r,seekM (ns.drop j) (rs.drop j) l[x].f5=some r->R=((u:Int),r))->(seekM (ns.drop j) (rs.drop j) l[x].f5=none->Ev (fun k=>(spec_ParentOf.f k l u).bind fun t=>spec_BinderOf.l0 k l x u t (-1) (-1)) R) ->
  Ev (fun k=>spec_BinderOf.l1 k l x u ns rs j (-1) (-1)) R:= by
 induction m with
 | zero =>
  intro j hj hs hz
  have d:¬ (j:Int)<(ns.length:Int):= by omega
  rw [List.drop_of_length_le (by omega)] at hz
  apply ev_step
  simp only [spec_BinderOf.l1,if_neg d]
  exact hz rfl
 | succ m ih =>
  intro j hj hs hz
  have d:(j:Int)<(ns.length:Int):= by omega
  have d0:0<=(j:Int):= by omega
  have d1:(j:Int)<(rs.length:Int):= by omega
  have x0:0<=(x:Int):= by omega
  have x1:(x:Int)<(l.length:Int):= by omega
  have hj':j<ns.length:= by omega
  have hj2:j<rs.length:= by omega
  rw [List.drop_eq_getElem_cons hj',List.drop_eq_getElem_cons hj2,seekM] at hs hz
  apply ev_step
  simp only [spec_BinderOf.l1,if_pos d,if_pos d0,if_pos x0,if_pos x1,if_pos d1,rds_get ns j hj',rdN_get l x hx,rd_get rs j hj2,wrap_next j (by omega)]
  by_cases e:ns[j].toList=l[x].f5.toList
  ·simp only [if_pos e]
   rw [if_pos e] at hs
   rw [hs _ rfl]
   exact ev_const _
  ·simp only [if_neg e]
   rw [if_neg e] at hs hz
   exact ih (j+1) (by omega) hs hz
theorem impl_seek (l:List S45) (U:List Int) (i:Nat) (hi:i<U.length) (s:ByteArray) (ns:List ByteArray) (rs:List Int) (hl:ns.length=rs.length) (h2:ns.length<=2) {R:Int × Int} (m:Nat):∀ j:Nat,j+m=ns.length ->
  (∀ r,seekM (ns.drop j) (rs.drop j) s=some r->R=(rd U i,r))->(seekM (ns.drop j) (rs.drop j) s=none->Ev (fun k=>impl_binderOf.l0 k l U (rd U i) s) R) ->
  Ev (fun k=>impl_binderOf.l1 k l U i s rs ns (ns.length:Int) j) R:= by
 have x0:0<=(i:Int):= by omega
 have x1:(i:Int)<(U.length:Int):= by omega
 induction m with
 | zero =>
  intro j hj hs hz
  have d:¬ (j:Int)<(ns.length:Int):= by omega
  rw [List.drop_of_length_le (by omega)] at hz
  apply ev_step
  simp only [impl_binderOf.l1,if_neg d,if_pos x0,if_pos x1]
  exact hz rfl
 | succ m ih =>
  intro j hj hs hz
  have d:(j:Int)<(ns.length:Int):= by omega
  have d0:0<=(j:Int):= by omega
  have d1:(j:Int)<(rs.length:Int):= by omega
  have hj':j<ns.length:= by omega
  have hj2:j<rs.length:= by omega
  rw [List.drop_eq_getElem_cons hj',List.drop_eq_getElem_cons hj2,seekM] at hs hz
  apply ev_step
  simp only [impl_binderOf.l1,if_pos d,if_pos d0,if_pos x0,if_pos x1,if_pos d1,rds_get ns j hj',rd_get rs j hj2,wrap_next j (by omega)]
  by_cases e:ns[j].toList=s.toList
  ·simp only [if_pos e]
   rw [if_pos e] at hs
   rw [hs _ rfl]
   exact ev_const _
  ·simp only [if_neg e]
   rw [if_neg e] at hs hz
   exact ih (j+1) (by omega) hs hz
theorem spec_climb {l:List S45} {st:List Int} (h:Tree l st) (ho:okM l=true) (hn:l.length<=1048576) (hs:∀ x∈l,small x) (x:Nat) (hx:x<l.length) (m:Nat):∀ i:Nat,i<l.length->l.length<=i+m ->
  Ev (fun k=>spec_BinderOf.l0 k l x i (upM l l.length i) (-1) (-1)) (binderM l m i l[x].f5):= by
 induction m with
 | zero=>intro i h1 h2;omega
 | succ m ih =>
  intro i h1 h2
  apply ev_step
  rw [binderM]
  by_cases c:0<=upM l l.length i
  ·have hlt:= h.up_lt i c
   have hr:= up_range l i l.length
   obtain ⟨u,hu⟩:∃ u:Nat,upM l l.length i=(u:Int):= ⟨(upM l l.length i).toNat,by omega⟩
   rw [hu] at c hlt hr ⊢
   have cu:(u:Int)<(l.length:Int):= hr.1
   have cu':u<l.length:= by omega
   have c':(u:Int) >= 0:= c
   rw [if_pos c]
   simp only [spec_BinderOf.l0,if_pos c',if_pos c,if_pos cu,rdN_get l u cu']
   refine ev_bind (spec_bn l[u] i) ?_
   obtain ⟨b1,b2⟩:= bn_len l[u] i
   generalize bnM l[u] i=B at b1 b2 ⊢
   refine spec_seek l x u hx hn B.1 B.2 b1 b2 B.1.length 0 (by omega) ?_ ?_
   ·intro r hr
    simp only [List.drop_zero] at hr
    rw [hr]
   ·intro hr
    simp only [List.drop_zero] at hr
    rw [hr]
    have sp:= spec_parent l u hn hs
    unfold parentM at sp
    rw [if_pos ho] at sp
    exact ev_bind sp (ih u cu' (by omega))
  ·have c':¬ upM l l.length i >= 0:= c
   rw [if_neg c]
   simp only [spec_BinderOf.l0,if_neg c']
   exact ev_const _
theorem impl_climb {l:List S45} {st:List Int} (h:Tree l st) (hn:l.length<=1048576) (s:ByteArray) (m:Nat):∀ i:Nat,i<l.length->l.length<=i+m ->
  Ev (fun k=>impl_binderOf.l0 k l (upsM l) i s) (binderM l m i s):= by
 induction m with
 | zero=>intro i h1 h2;omega
 | succ m ih =>
  intro i h1 h2
  have x0:0<=(i:Int):= by omega
  have x1:(i:Int)<((upsM l).length:Int):= by rw [ups_len];omega
  have er:= ups_rd l i h1
  apply ev_step
  rw [binderM]
  by_cases c:0<=upM l l.length i
  ·have hlt:= h.up_lt i c
   have hr:= up_range l i l.length
   obtain ⟨u,hu⟩:∃ u:Nat,upM l l.length i=(u:Int):= ⟨(upM l l.length i).toNat,by omega⟩
   rw [hu] at c hlt hr er ⊢
   have cu:(u:Int)<(l.length:Int):= hr.1
   have cu':u<l.length:= by omega
   have c':(u:Int) >= 0:= c
   rw [if_pos c]
   simp only [impl_binderOf.l0,if_pos x0,if_pos x1,er,if_pos c',if_pos c,if_pos cu,rdN_get l u cu']
   refine ev_bind (impl_bn l[u] i) ?_
   obtain ⟨b1,b2⟩:= bn_len l[u] i
   generalize bnM l[u] i=B at b1 b2 ⊢
   refine impl_seek l (upsM l) i (by rw [ups_len];exact h1) s B.1 B.2 b1 b2 B.1.length 0 (by omega) ?_ ?_
   ·intro r hr
    simp only [List.drop_zero] at hr
    rw [hr,er]
   ·intro hr
    simp only [List.drop_zero] at hr
    rw [hr,er]
    exact ih u cu' (by omega)
  ·have c':¬ upM l l.length i >= 0:= c
   rw [if_neg c]
   simp only [impl_binderOf.l0,if_pos x0,if_pos x1,er,if_neg c']
   exact ev_const _
def cB (b:Int × Int):S30:= ⟨b.1,b.2⟩
def boundM (l:List S45) (i:Nat):Int × Int:= if (rd_T45 l (i:Int)).f0=1 then binderM l l.length i (rd_T45 l (i:Int)).f5 else (-1,-1)
theorem rdB_get (xs:List S30) (i:Nat) (h:i<xs.length):rd_T30 xs (i:Int)=xs[i]:= by
 unfold rd_T30
 simp [List.getD_eq_getElem?_getD,List.getElem?_eq_getElem h]
theorem impl_binders_loop {l:List S45} {st:List Int} (h:Tree l st) (hn:l.length<=150) (m:Nat):∀ (i:Nat) (out:List S30),i+m=l.length->out=(List.range i).map (fun j=>cB (boundM l j)) ->
  Ev (fun k=>impl_binders.l0 k l (upsM l) out l (l.length:Int) i) ((List.range l.length).map fun j=>cB (boundM l j)):= by
 induction m with
 | zero =>
  intro i out hi ho
  have d:¬ (i:Int)<(l.length:Int):= by omega
  apply ev_step
  simp only [impl_binders.l0,if_neg d]
  have e:i=l.length:= by omega
  subst e
  rw [ho]
  exact ev_const _
 | succ m ih =>
  intro i out hi ho
  have d:(i:Int)<(l.length:Int):= by omega
  have d0:0<=(i:Int):= by omega
  have hi':i<l.length:= by omega
  have s1:out.length<8796093022208:= by rw [ho];simp;omega
  have next:∀ b:Int × Int,boundM l i=b->Ev (fun k=>impl_binders.l0 k l (upsM l) (out++[(⟨b.1,b.2⟩:S30)]) l (l.length:Int) ((i+1:Nat):Int)) ((List.range l.length).map fun j=>cB (boundM l j)):= by
   intro b hb
   refine ih (i+1) _ (by omega) ?_
   rw [List.range_succ,List.map_append,<- ho]
   simp only [List.map_cons,List.map_nil,hb]
   rfl
  apply ev_step
  simp only [impl_binders.l0,if_pos d,if_pos d0,rdN_get l i hi',wrap_next i (by omega)]
  by_cases e:l[i].f0=1
  ·simp only [if_pos e]
   refine ev_bind (impl_climb h (by omega) l[i].f5 l.length i hi' (by omega)) ?_
   simp only [if_pos s1]
   refine next _ ?_
   unfold boundM
   rw [rdN_get l i hi',if_pos e]
  ·simp only [if_neg e,if_pos s1]
   refine next (-1,-1) ?_
   unfold boundM
   rw [rdN_get l i hi',if_neg e]
def boundsM (l:List S45):List S30:= (List.range l.length).map fun j=>cB (boundM l j)
theorem bounds_len (l:List S45):(boundsM l).length=l.length:= by unfold boundsM;simp
theorem bounds_get (l:List S45) (i:Nat) (h:i<l.length):rd_T30 (boundsM l) (i:Int)=cB (boundM l i):= by
 rw [rdB_get _ i (by rw [bounds_len];exact h)]
 unfold boundsM
 simp
theorem impl_bounds {l:List S45} {st:List Int} (h:Tree l st) (hn:l.length<=150):Ev (fun k=>impl_binders.f k l) (boundsM l):= by
 unfold impl_binders.f
 refine ev_bind (impl_ups h (by omega)) ?_
 exact impl_binders_loop h hn l.length 0 [] (by omega) rfl
def binderOfM (l:List S45) (i:Int):Int × Int:= if okM l=true/\0<=i/\i<l.length then boundM l i.toNat else (-1,-1)
theorem spec_binder (l:List S45) (i:Int) (hn:l.length<=1048576) (hs:∀ x∈l,small x):Ev (fun k=>spec_BinderOf.f k l i) (binderOfM l i):= by
 have j0:Ev (fun k=>spec_BinderOf.j0 k l i true (-1) (-1)) (-1,-1):= by
  apply ev_step
  simp only [spec_BinderOf.j0,if_true]
  exact ev_const _
 unfold spec_BinderOf.f binderOfM
 refine ev_bind (spec_ok l hn hs) ?_
 cases ho:okM l
 ·rw [if_neg (by simp)]
  simp only [Bool.false_eq_true,if_false]
  exact j0
 ·obtain ⟨n1,n2,st,e1,tr,e2⟩:= ok_tree ho
  have ep:= in_place l i ⟨n1,n2⟩
  simp only [if_true,ep,Option.bind_some]
  by_cases hi:0<=i/\i<l.length
  ·rw [if_pos ⟨by simp,hi⟩]
   simp only [decide_eq_true hi,if_true,if_pos hi.1,if_pos hi.2]
   obtain ⟨j,rfl⟩:∃ j:Nat,i=(j:Int):= ⟨i.toNat,by omega⟩
   have hj:j<l.length:= by omega
   unfold boundM
   rw [Int.toNat_natCast,rdN_get l j hj]
   apply ev_step
   simp only [spec_BinderOf.j0]
   by_cases e:l[j].f0=1
   ·rw [if_pos e]
    have eb:(l[j].f0 != 1)=false:= by rw [e];rfl
    simp only [eb,Bool.false_eq_true,if_false]
    have sp:= spec_parent l j hn hs
    unfold parentM at sp
    rw [if_pos ho] at sp
    exact ev_bind sp (spec_climb tr ho hn hs j hj l.length j hj (by omega))
   ·rw [if_neg e]
    have eb:(l[j].f0 != 1)=true:= by simpa using e
    simp only [eb,if_true]
    exact ev_const _
  ·rw [if_neg (fun h=>hi h.2)]
   simp only [decide_eq_false hi,Bool.false_eq_true,if_false]
   exact j0
def key (b:ByteArray):List UInt8:= b.toList
theorem key_inj {a b:ByteArray} (h:key a=key b):a=b:= by
 simp only [key,ByteArray.toList_eq] at h
 cases a;cases b
 rw [Array.toList_inj] at h
 exact congrArg ByteArray.mk h
theorem bl_lt:∀ (x y:List UInt8),Op.bytesLess x y=true↔x<y
 | [],[]=>by simp [Op.bytesLess]
 | _::_,[]=>by simp [Op.bytesLess]
 | [],_::_=>by simp [Op.bytesLess]
 | a::x,b::y=>by
  have ih:= bl_lt x y
  simp only [Op.bytesLess,Bool.or_eq_true,Bool.and_eq_true,decide_eq_true_eq,beq_iff_eq,ih]
  rw [List.cons_lt_cons_iff]
def Lt (a b:ByteArray):Prop:= key a<key b
theorem Lt.irr (a:ByteArray):¬ Lt a a:= List.lt_irrefl _
theorem Lt.tr {a b c:ByteArray} (h:Lt a b) (k:Lt b c):Lt a c:= List.lt_trans h k
theorem Lt.tot {a b:ByteArray} (h:¬ Lt a b) (k:a≠b):Lt b a:= by
 have h1:key b<=key a:= List.not_lt.1 h
 rcases List.le_iff_lt_or_eq.1 h1 with h2|h2
 ·exact h2
 ·exact absurd (key_inj h2).symm k
instance (a b:ByteArray):Decidable (Lt a b):= inferInstanceAs (Decidable (key a<key b))
def insO (s:ByteArray):List ByteArray->List ByteArray
 | []=>[s]
 | x::xs=>if Lt s x then s::x::xs else x::insO s xs
def insM (l:List ByteArray) (s:ByteArray):List ByteArray:= if key s∈l.map key then l else insO s l
theorem key_mem {s:ByteArray} {l:List ByteArray}:key s∈l.map key↔s∈l:= by
 rw [List.mem_map]
 constructor
 ·rintro ⟨x,hx,e⟩
  rw [<- key_inj e]
  exact hx
 ·exact fun h=>⟨s,h,rfl⟩
def Up (l:List ByteArray):Prop:= l.Pairwise Lt
theorem insO_mem (s x:ByteArray):∀ l,x∈insO s l↔x=s\/x∈l
 | []=>by simp [insO]
 | y::l=>by
  unfold insO
  split
  ·simp
  ·have:= insO_mem s x l
   simp only [List.mem_cons,this]
   constructor
   ·rintro (h|h|h) <;> simp [h]
   ·rintro (h|h|h) <;> simp [h]
theorem insO_up (s:ByteArray):∀ l,Up l->s ∉ l->Up (insO s l)
 | [],_,_=>by simp [insO,Up]
 | y::l,h,hn=>by
  unfold Up at h ⊢
  rw [List.pairwise_cons] at h
  unfold insO
  split
  ·rename_i hs
   rw [List.pairwise_cons,List.pairwise_cons]
   refine ⟨fun z hz=>?_,h⟩
   rcases List.mem_cons.1 hz with rfl|hz
   ·exact hs
   ·exact hs.tr (h.1 z hz)
  ·rename_i hs
   rw [List.pairwise_cons]
   refine ⟨fun z hz=>?_,insO_up s l h.2 (fun q=>hn (List.mem_cons_of_mem _ q))⟩
   rcases (insO_mem s z l).1 hz with rfl|hz
   ·exact Lt.tot hs (fun e=>hn (by rw [e];exact List.mem_cons_self))
   ·exact h.1 z hz
theorem insM_mem (s x:ByteArray) (l:List ByteArray):x∈insM l s↔x=s\/x∈l:= by
 unfold insM
 split
 ·rename_i h
  rw [key_mem] at h
  constructor
  ·exact Or.inr
  ·rintro (rfl|h') <;> assumption
 ·exact insO_mem s x l
theorem insM_up {s:ByteArray} {l:List ByteArray} (h:Up l):Up (insM l s):= by
 unfold insM
 split
 ·exact h
 ·rename_i hn
  exact insO_up s l h (fun q=>hn (key_mem.2 q))
theorem fold_ins:∀ (ns l:List ByteArray),Up l->Up (ns.foldl insM l)/\∀ x,x∈ns.foldl insM l↔x∈ns\/x∈l
 | [],l,h=>⟨h,fun x=>by simp⟩
 | n::ns,l,h=>by
  obtain ⟨h1,h2⟩:= fold_ins ns (insM l n) (insM_up h)
  refine ⟨h1,fun x=>?_⟩
  rw [List.foldl_cons,h2,insM_mem,List.mem_cons]
  constructor
  ·rintro (h|h|h) <;> simp [h]
  ·rintro ((h|h)|h) <;> simp [h]
theorem up_same:∀ (a b:List ByteArray),Up a->Up b->(∀ x,x∈a↔x∈b)->a=b
 | [],[],_,_,_=>rfl
 | [],y::b,_,_,h=>absurd ((h y).2 List.mem_cons_self) (by simp)
 | x::a,[],_,_,h=>absurd ((h x).1 List.mem_cons_self) (by simp)
 | x::a,y::b,ha,hb,h=>by
  unfold Up at ha hb
  rw [List.pairwise_cons] at ha hb
  have e:x=y:= by
   rcases List.mem_cons.1 ((h x).1 List.mem_cons_self) with e|hx
   ·exact e
   ·rcases List.mem_cons.1 ((h y).2 List.mem_cons_self) with e|hy
    ·exact e.symm
    ·exact absurd ((ha.1 y hy).tr (hb.1 x hx)) (Lt.irr _)
  subst e
  rw [up_same a b ha.2 hb.2 (fun z=>?_)]
  constructor
  ·intro hz
   rcases List.mem_cons.1 ((h z).1 (List.mem_cons_of_mem _ hz)) with rfl|q
   ·exact absurd (ha.1 z hz) (Lt.irr _)
   ·exact q
  ·intro hz
   rcases List.mem_cons.1 ((h z).2 (List.mem_cons_of_mem _ hz)) with rfl|q
   ·exact absurd (hb.1 z hz) (Lt.irr _)
   ·exact q
def dd:Option ByteArray->List ByteArray->List ByteArray
 | _,[]=>[]
 | p,x::xs=>if p.map key=some (key x) then dd p xs else x::dd (some x) xs
theorem some_key {p:Option ByteArray} {x:ByteArray}:p.map key=some (key x)↔p=some x:= by
 cases p with
 | none=>simp
 | some y=>simp only [Option.map_some,Option.some.injEq];exact ⟨key_inj,fun h=>by rw [h]⟩
def Le (a b:ByteArray):Prop:= key a<=key b
theorem Le.lt {a b:ByteArray} (h:Le a b) (hn:a≠b):Lt a b:= by
 rcases List.le_iff_lt_or_eq.1 h with h2|h2
 ·exact h2
 ·exact absurd (key_inj h2) hn
theorem dd_spec:∀ (l:List ByteArray) (p:Option ByteArray),l.Pairwise Le->(∀ y,p=some y->∀ x∈l,Le y x)->Up (dd p l)/\(∀ x,x∈dd p l↔x∈l/\p≠some x)/\∀ y,p=some y->∀ x∈dd p l,Lt y x
 | [],p,_,_=>by simp [dd,Up]
 | x::l,p,h,hp=>by
  rw [List.pairwise_cons] at h
  unfold dd
  split
  ·rename_i e
   rw [some_key] at e
   obtain ⟨h1,h2,h3⟩:= dd_spec l p h.2 (fun y hy z hz=>hp y hy z (List.mem_cons_of_mem _ hz))
   refine ⟨h1,fun z=>?_,h3⟩
   rw [h2,List.mem_cons]
   constructor
   ·exact fun ⟨q1,q2⟩=>⟨.inr q1,q2⟩
   ·rintro ⟨rfl|q1,q2⟩
    ·exact absurd e q2
    ·exact ⟨q1,q2⟩
  ·rename_i e
   rw [some_key] at e
   obtain ⟨h1,h2,h3⟩:= dd_spec l (some x) h.2 (fun y hy z hz=>by cases hy;exact h.1 z hz)
   refine ⟨?_,fun z=>?_,fun y hy z hz=>?_⟩
   ·unfold Up
    rw [List.pairwise_cons]
    exact ⟨h3 x rfl,h1⟩
   ·rw [List.mem_cons,h2,List.mem_cons]
    constructor
    ·rintro (rfl|⟨q1,q2⟩)
     ·exact ⟨.inl rfl,e⟩
     ·refine ⟨.inr q1,fun hz=>?_⟩
      have a1:= hp z hz x List.mem_cons_self
      have a2:= h.1 z q1
      exact q2 (congrArg some (key_inj (List.le_antisymm a2 a1)))
    ·rintro ⟨rfl|q1,q2⟩
     ·exact .inl rfl
     ·by_cases hz:z=x
      ·exact .inl hz
      ·exact .inr ⟨q1,fun q=>hz (Option.some.inj q).symm⟩
   ·have a1:= hp y hy x List.mem_cons_self
    rcases List.mem_cons.1 hz with rfl|q
    ·exact a1.lt (fun q=>e (by rw [hy,q]))
    ·exact Lt.tr (a1.lt (fun q=>e (by rw [hy,q]))) (h3 x rfl z q)
theorem sortB_le (l:List ByteArray):(sortB l).Pairwise Le:= by
 unfold sortB
 rw [List.pairwise_map]
 have:= List.pairwise_mergeSort (le:= fun (x y:List UInt8)=>decide (x<=y)) (fun a b c h k=>by simp only [decide_eq_true_eq] at *;exact List.le_trans h k) (fun a b=>by simp only [Bool.or_eq_true,decide_eq_true_eq];exact List.le_total a b) (l.map fun b=>b.data.toList)
 refine this.imp ?_
 intro a b h
 simpa [Le,key,ByteArray.toList_eq] using h
theorem sortB_mem (l:List ByteArray) (x:ByteArray):x∈sortB l↔x∈l:= by
 unfold sortB
 simp only [List.mem_map,List.mem_mergeSort]
 constructor
 ·rintro ⟨y,⟨z,hz,rfl⟩,rfl⟩
  exact hz
 ·intro h
  exact ⟨x.data.toList,⟨x,h,rfl⟩,rfl⟩
theorem sort_ins (l:List ByteArray):dd none (sortB l)=l.foldl insM []:= by
 obtain ⟨h1,h2,_⟩:= dd_spec (sortB l) none (sortB_le l) (by simp)
 obtain ⟨k1,k2⟩:= fold_ins l [] (by simp [Up])
 refine up_same _ _ h1 k1 (fun x=>?_)
 rw [h2,k2,sortB_mem]
 simp
theorem rdStr_get (xs:List ByteArray) (i:Nat) (h:i<xs.length):rdOf ByteArray.empty xs (i:Int)=xs[i]:= by
 unfold rdOf
 simp [List.getD_eq_getElem?_getD,List.getElem?_eq_getElem h]
theorem less_lt {a b:ByteArray}:(Op.bytesLess a.toList b.toList)=true↔Lt a b:= bl_lt _ _
theorem insO_len (s:ByteArray):∀ l,(insO s l).length=l.length+1
 | []=>rfl
 | x::l=>by
  unfold insO
  split
  ·simp
  ·simp [insO_len s l]
theorem insM_len (l:List ByteArray) (s:ByteArray):(insM l s).length<=l.length+1:= by
 unfold insM
 split
 ·omega
 ·rw [insO_len];omega
theorem fold_len:∀ (ns l:List ByteArray),(ns.foldl insM l).length<=l.length+ns.length
 | [],l=>by simp
 | n::ns,l=>by
  rw [List.foldl_cons,List.length_cons]
  have:= fold_len ns (insM l n)
  have:= insM_len l n
  omega
theorem insert_loop (l:List ByteArray) (s:ByteArray) (hn:l.length<=100000) (m:Nat):∀ (i:Nat) (out:List ByteArray),i+m=l.length->out.length<=2*i+1 ->
  (key s ∉ (l.drop i).map key->Ev (fun k=>spec_l6Sort.l0 k l s out true i) (out++l.drop i))/\(key s ∉ (l.drop i).map key->Ev (fun k=>spec_l6Sort.l0 k l s out false i) (out++insO s (l.drop i))) /\
  (∀ b,key s∈(l.drop i).map key->Ev (fun k=>spec_l6Sort.l0 k l s out b i) l):= by
 induction m with
 | zero =>
  intro i out hi ho
  have d:¬ (i:Int)<(l.length:Int):= by omega
  have s1:out.length<8796093022208:= by omega
  rw [List.drop_of_length_le (by omega)]
  refine ⟨fun _=>?_,fun _=>?_,fun b h=>absurd h (by simp)⟩
  ·apply ev_step
   simp only [spec_l6Sort.l0,if_neg d]
   exact ev_eq (ev_const _) (by simp)
  ·apply ev_step
   simp only [spec_l6Sort.l0,if_neg d,Bool.false_eq_true,if_false,if_pos s1]
   exact ev_eq (ev_const _) (by simp [insO])
 | succ m ih =>
  intro i out hi ho
  have d:(i:Int)<(l.length:Int):= by omega
  have d0:0<=(i:Int):= by omega
  have hi':i<l.length:= by omega
  have s1:out.length<8796093022208:= by omega
  have s2:∀ v:ByteArray,(out++[v]).length<8796093022208:= fun v=>by simp;omega
  rw [List.drop_eq_getElem_cons hi',List.map_cons,List.mem_cons]
  by_cases e:l[i].toList=s.toList
  ·have:∀ b,Ev (fun k=>spec_l6Sort.l0 k l s out b i) l:= by
    intro b
    apply ev_step
    simp only [spec_l6Sort.l0,if_pos d,if_pos d0,rdStr_get l i hi',if_pos e]
    exact ev_const _
   exact ⟨fun h=>absurd (Or.inl e.symm) h,fun h=>absurd (Or.inl e.symm) h,fun b _=>this b⟩
  ·have e':¬ key s=key l[i]:= fun q=>e q.symm
   refine ⟨fun h=>?_,fun h=>?_,fun b h=>?_⟩
   ·obtain ⟨i1,i2,i3⟩:= ih (i+1) (out++[l[i]]) (by omega) (by simp;omega)
    have:= i1 (fun q=>h (Or.inr q))
    rw [List.append_assoc] at this
    apply ev_step
    simp only [spec_l6Sort.l0,if_pos d,if_pos d0,rdStr_get l i hi',if_neg e,if_true,if_pos s1,wrap_next i (by omega)]
    exact this
   ·rw [insO]
    by_cases q:Lt s l[i]
    ·obtain ⟨i1,i2,i3⟩:= ih (i+1) (out++[s]++[l[i]]) (by omega) (by simp;omega)
     have:= i1 (fun q=>h (Or.inr q))
     rw [if_pos q]
     apply ev_step
     simp only [spec_l6Sort.l0,if_pos d,if_pos d0,rdStr_get l i hi',if_neg e,Bool.false_eq_true,if_false,less_lt.2 q,if_true,if_pos s1,Option.bind_some,if_pos (s2 s),wrap_next i (by omega)]
     exact ev_eq this (by simp)
    ·have q':¬ (Op.bytesLess s.toList l[i].toList)=true:= fun z=>q (less_lt.1 z)
     obtain ⟨i1,i2,i3⟩:= ih (i+1) (out++[l[i]]) (by omega) (by simp;omega)
     have:= i2 (fun q=>h (Or.inr q))
     rw [List.append_assoc] at this
     rw [if_neg q]
     apply ev_step
     simp only [spec_l6Sort.l0,if_pos d,if_pos d0,rdStr_get l i hi',if_neg e,Bool.false_eq_true,if_false,if_neg q',if_pos s1,wrap_next i (by omega)]
     exact this
   ·rcases h with h|h
    ·exact absurd h e'
    ·cases b
     ·by_cases q:Lt s l[i]
      ·obtain ⟨i1,i2,i3⟩:= ih (i+1) (out++[s]++[l[i]]) (by omega) (by simp;omega)
       apply ev_step
       simp only [spec_l6Sort.l0,if_pos d,if_pos d0,rdStr_get l i hi',if_neg e,Bool.false_eq_true,if_false,less_lt.2 q,if_true,if_pos s1,Option.bind_some,if_pos (s2 s),wrap_next i (by omega)]
       exact i3 true h
      ·have q':¬ (Op.bytesLess s.toList l[i].toList)=true:= fun z=>q (less_lt.1 z)
       obtain ⟨i1,i2,i3⟩:= ih (i+1) (out++[l[i]]) (by omega) (by simp;omega)
       apply ev_step
       simp only [spec_l6Sort.l0,if_pos d,if_pos d0,rdStr_get l i hi',if_neg e,Bool.false_eq_true,if_false,if_neg q',if_pos s1,wrap_next i (by omega)]
       exact i3 false h
     ·obtain ⟨i1,i2,i3⟩:= ih (i+1) (out++[l[i]]) (by omega) (by simp;omega)
      apply ev_step
      simp only [spec_l6Sort.l0,if_pos d,if_pos d0,rdStr_get l i hi',if_neg e,if_true,if_pos s1,wrap_next i (by omega)]
      exact i3 true h
theorem spec_insert (l:List ByteArray) (s:ByteArray) (hn:l.length<=100000):Ev (fun k=>spec_l6Sort.f k l s) (insM l s):= by
 have:= insert_loop l s hn l.length 0 [] (by omega) (by simp)
 rw [List.drop_zero,List.nil_append,List.nil_append] at this
 unfold insM
 split
 ·exact this.2.2 false ‹_›
 ·exact this.2.1 ‹_›
theorem sortB_len (l:List ByteArray):(sortB l).length=l.length:= by
 unfold sortB
 simp
theorem clear_loop (l:List ByteArray) (hn:l.length<=100000) (m:Nat):∀ (i:Nat) (out:List ByteArray) (p:Option ByteArray),i+m=l.length->out.length<=i->(i=0->p=none)->(0<i->p=l[i - 1]?) ->
  Ev (fun k=>impl_sorted.l0 k l out l (l.length:Int) i) (out++dd p (l.drop i),l):= by
 induction m with
 | zero =>
  intro i out p hi ho _ _
  have d:¬ (i:Int)<(l.length:Int):= by omega
  rw [List.drop_of_length_le (by omega)]
  apply ev_step
  simp only [impl_sorted.l0,if_neg d]
  exact ev_eq (ev_const _) (by simp [dd])
 | succ m ih =>
  intro i out p hi ho p0 p1
  have d:(i:Int)<(l.length:Int):= by omega
  have d0:0<=(i:Int):= by omega
  have hi':i<l.length:= by omega
  have s1:out.length<8796093022208:= by omega
  rw [List.drop_eq_getElem_cons hi',dd]
  have n1:= ih (i+1) (out++[l[i]]) (some l[i]) (by omega) (by simp;omega) (by omega) (fun _=>by simp [List.getElem?_eq_getElem hi'])
  rw [List.append_assoc] at n1
  apply ev_step
  by_cases z:i=0
  ·have z':(i:Int)=0:= by omega
   rw [p0 z,if_neg (by simp)]
   simp only [impl_sorted.l0,if_pos d,if_pos d0,if_pos z',if_pos s1,rdStr_get l i hi',wrap_next i (by omega)]
   exact n1
  ·have z':¬ (i:Int)=0:= by omega
   have hw:wrap64 ((i:Int) - 1)=((i - 1:Nat):Int):= by unfold wrap64;omega
   have e0:0<=((i - 1:Nat):Int):= by omega
   have e1:((i - 1:Nat):Int)<(l.length:Int):= by omega
   have e2:i - 1<l.length:= by omega
   have hp:= p1 (by omega)
   rw [List.getElem?_eq_getElem e2] at hp
   subst hp
   simp only [impl_sorted.l0,if_pos d,if_pos d0,if_neg z',hw,if_pos e0,if_pos e1,rdStr_get l i hi',rdStr_get l (i - 1) e2]
   by_cases q:l[i - 1].toList=l[i].toList
   ·have q2:l[i - 1]=l[i]:= key_inj q
    rw [if_pos (by simp only [Option.map_some,Option.some.injEq];exact q)]
    simp only [if_pos q,wrap_next i (by omega)]
    exact ih (i+1) out _ (by omega) (by omega) (by omega) (fun _=>by rw [q2];simp [List.getElem?_eq_getElem hi'])
   ·rw [if_neg (by simp only [Option.map_some,Option.some.injEq];exact q)]
    simp only [if_neg q,if_pos s1,wrap_next i (by omega)]
    exact n1
theorem impl_sort (l:List ByteArray) (hn:l.length<=100000):Ev (fun k=>impl_sorted.f k l) (l.foldl insM [],sortB l):= by
 unfold impl_sorted.f
 have s:sort_Strings.f l=some (sortB l):= by
  unfold sort_Strings.f
  rw [if_pos (by omega)]
 simp only [s,Option.bind_some]
 have h:= sortB_len l
 have:= clear_loop (sortB l) (by omega) (sortB l).length 0 [] none (by omega) (by simp) (fun _=>rfl) (by omega)
 rw [List.drop_zero,List.nil_append,sort_ins,h] at this
 exact this
def freeAt (l:List S45) (i:Nat):Prop:= (rd_T45 l (i:Int)).f0=1/\(boundM l i).1<0
instance (l:List S45) (i:Nat):Decidable (freeAt l i):= inferInstanceAs (Decidable (_/\_))
def freesM (l:List S45):Nat->Nat->List ByteArray
 | 0,_=>[]
 | m+1,i=>(if freeAt l i then [(rd_T45 l (i:Int)).f5] else [])++freesM l m (i+1)
theorem frees_len (l:List S45):∀ m i,(freesM l m i).length<=m:= by
 intro m
 induction m with
 | zero=>intro i;simp [freesM]
 | succ m ih =>
  intro i
  rw [freesM,List.length_append]
  have:= ih (i+1)
  split <;> simp <;> omega
theorem impl_free_loop {l:List S45} (hn:l.length<=150) (m:Nat):∀ (i:Nat) (out:List ByteArray),i+m=l.length->out.length<=i ->
  Ev (fun k=>impl_FreeNames.l0 k l out (boundsM l) ((boundsM l).length:Int) i) ((out++freesM l m i).foldl insM []):= by
 induction m with
 | zero =>
  intro i out hi ho
  have d:¬ (i:Int)<((boundsM l).length:Int):= by rw [bounds_len];omega
  apply ev_step
  simp only [impl_FreeNames.l0,if_neg d]
  rw [freesM,List.append_nil]
  exact ev_bind (impl_sort out (by omega)) (ev_const _)
 | succ m ih =>
  intro i out hi ho
  have d:(i:Int)<((boundsM l).length:Int):= by rw [bounds_len];omega
  have d1:(i:Int)<(l.length:Int):= by omega
  have d0:0<=(i:Int):= by omega
  have hi':i<l.length:= by omega
  have s1:out.length<8796093022208:= by omega
  have n0:= ih (i+1) out (by omega) (by omega)
  rw [freesM]
  apply ev_step
  simp only [impl_FreeNames.l0,if_pos d,if_pos d0,if_pos d1,bounds_get l i hi',wrap_next i (by omega),cB]
  by_cases e1:(rd_T45 l (i:Int)).f0=1
  ·simp only [if_pos e1]
   by_cases e2:(boundM l i).1<0
   ·rw [if_pos (show freeAt l i from ⟨e1,e2⟩)]
    simp only [if_pos e2,if_pos s1]
    have:= ih (i+1) (out++[(rd_T45 l (i:Int)).f5]) (by omega) (by simp;omega)
    rw [List.append_assoc] at this
    exact this
   ·rw [if_neg (fun h:freeAt l i=>e2 h.2)]
    simp only [if_neg e2]
    exact n0
  ·rw [if_neg (fun h:freeAt l i=>e1 h.1)]
   simp only [if_neg e1]
   exact n0
theorem spec_free_loop {l:List S45} (hn:l.length<=150) (hs:∀ x∈l,small x) (ho:okM l=true) (m:Nat):∀ (i:Nat) (out:List ByteArray),i+m=l.length->out.length<=i ->
  Ev (fun k=>spec_FreeNames.l0 k l out i) ((freesM l m i).foldl insM out):= by
 induction m with
 | zero =>
  intro i out hi hl
  have d:¬ (i:Int)<(l.length:Int):= by omega
  apply ev_step
  simp only [spec_FreeNames.l0,if_neg d]
  apply ev_step
  simp only [spec_FreeNames.j1,Bool.false_eq_true,if_false]
  exact ev_const _
 | succ m ih =>
  intro i out hi hl
  have d:(i:Int)<(l.length:Int):= by omega
  have d0:0<=(i:Int):= by omega
  have hi':i<l.length:= by omega
  have n0:= ih (i+1) out (by omega) (by omega)
  have hin:= insM_len out (rd_T45 l (i:Int)).f5
  have n1:= ih (i+1) (insM out (rd_T45 l (i:Int)).f5) (by omega) (by omega)
  rw [freesM]
  apply ev_step
  simp only [spec_FreeNames.l0,if_pos d]
  refine ev_bind (spec_ok l (by omega) hs) ?_
  rw [ho]
  apply ev_step
  simp only [spec_FreeNames.j1,if_true,if_pos d,if_pos d0,wrap_next i (by omega)]
  by_cases e1:(rd_T45 l (i:Int)).f0=1
  ·simp only [if_pos e1]
   refine ev_bind (spec_binder l i (by omega) hs) ?_
   have eb:binderOfM l (i:Int)=boundM l i:= by
    unfold binderOfM
    rw [if_pos ⟨ho,by omega,by omega⟩,Int.toNat_natCast]
   rw [eb]
   by_cases e2:(boundM l i).1<0
   ·rw [if_pos (show freeAt l i from ⟨e1,e2⟩)]
    simp only [if_pos e2]
    exact ev_bind (spec_insert out _ (by omega)) n1
   ·rw [if_neg (fun h:freeAt l i=>e2 h.2)]
    simp only [if_neg e2]
    exact n0
  ·rw [if_neg (fun h:freeAt l i=>e1 h.1)]
   simp only [if_neg e1]
   exact n0
def freeM (l:List S45):List ByteArray:= if okM l=true then (freesM l l.length 0).foldl insM [] else []
theorem spec_free (l:List S45) (hn:l.length<=1048576) (hs:∀ x∈l,small x):Ev (fun k=>spec_FreeNames.f k l) (freeM l):= by
 unfold spec_FreeNames.f freeM
 by_cases h:okM l=true
 ·rw [if_pos h]
  obtain ⟨n1,n2,st,e1,tr,e2⟩:= ok_tree h
  exact spec_free_loop n2 hs h l.length 0 [] (by omega) (by simp)
 ·rw [if_neg h]
  have j1:Ev (fun k=>spec_FreeNames.j1 k l [] 0 false) []:= by
   apply ev_step
   simp only [spec_FreeNames.j1,Bool.false_eq_true,if_false]
   exact ev_const _
  apply ev_step
  simp only [spec_FreeNames.l0]
  by_cases d:(0:Int)<(l.length:Int)
  ·simp only [if_pos d]
   refine ev_bind (spec_ok l hn hs) ?_
   cases ho:okM l
   ·exact j1
   ·exact absurd ho h
  ·simp only [if_neg d]
   exact j1
theorem impl_free (l:List S45) (hn:l.length<=1048576) (hs:∀ x∈l,small x):Ev (fun k=>impl_FreeNames.f k l) (freeM l):= by
 unfold impl_FreeNames.f freeM
 refine ev_bind (impl_ok l hn hs) ?_
 cases ho:okM l
 ·simp only [Bool.false_eq_true,if_false]
  exact ev_const _
 ·obtain ⟨n1,n2,st,e1,tr,e2⟩:= ok_tree ho
  simp only [if_true]
  refine ev_bind (impl_bounds tr n2) ?_
  have:= impl_free_loop n2 l.length 0 [] (by omega) (by simp)
  rw [List.nil_append] at this
  exact this
theorem free_most (l:List S45):(freeM l).length<=150:= by
 unfold freeM
 split
 ·rename_i h
  obtain ⟨n1,n2,_⟩:= ok_tree h
  have:= frees_len l l.length 0
  have:= fold_len (freesM l l.length 0) []
  simp only [List.length_nil] at this
  omega
 ·simp
def siteM (i:Nat) (a:Int):List S30:= if a=1 then [] else (List.range (nm a)).map fun (r:Nat)=>⟨(i:Int),(r:Int)⟩
def sitesM:List S45->Nat->List S30
 | [],_=>[]
 | n::ns,i=>siteM i n.f0++sitesM ns (i+1)
theorem site_len (i:Nat) (a:Int):(siteM i a).length<=2:= by
 unfold siteM
 split
 ·simp
 ·rw [List.length_map,List.length_range]
  have:= nm_most a
  omega
theorem sites_len:∀ (l:List S45) (i:Nat),(sitesM l i).length<=2*l.length:= by
 intro l
 induction l with
 | nil=>intro i;simp [sitesM]
 | cons n ns ih =>
  intro i
  rw [sitesM,List.length_append,List.length_cons]
  have:= ih (i+1)
  have:= site_len i n.f0
  omega
theorem spec_sites_loop (l:List S45) (hn:l.length<=150) (hs:∀ x∈l,small x) (ho:okM l=true) (m:Nat):∀ (i:Nat) (out:List S30),i+m=l.length->out.length<=2*i ->
  Ev (fun k=>spec_Sites.l0 k l out i) (out++sitesM (l.drop i) i):= by
 induction m with
 | zero =>
  intro i out hi hl
  have d:¬ (i:Int)<(l.length:Int):= by omega
  rw [List.drop_of_length_le (by omega)]
  apply ev_step
  simp only [spec_Sites.l0,if_neg d]
  apply ev_step
  simp only [spec_Sites.j1,Bool.false_eq_true,if_false]
  exact ev_eq (ev_const _) (by simp [sitesM])
 | succ m ih =>
  intro i out hi hl
  have d:(i:Int)<(l.length:Int):= by omega
  have d0:0<=(i:Int):= by omega
  have hi':i<l.length:= by omega
  rw [List.drop_eq_getElem_cons hi',sitesM]
  have s1:out.length<8796093022208:= by omega
  have s2:out.length+2<8796093022208:= by omega
  have next:∀ e:List S30,siteM i l[i].f0=e->Ev (fun k=>spec_Sites.l0 k l (out++e) ((i+1:Nat):Int)) (out++(siteM i l[i].f0++sitesM (l.drop (i+1)) (i+1))):= by
   intro e he
   have hb:= site_len i l[i].f0
   rw [he] at hb
   have:= ih (i+1) (out++e) (by omega) (by rw [List.length_append];omega)
   rw [he,<- List.append_assoc]
   exact this
  have j2:∀ b:Bool,(b=true↔l[i].f0=3\/l[i].f0=5\/l[i].f0=19)->Ev (fun k=>spec_Sites.j2 k l out i l[i].f0 b) (out++(siteM i l[i].f0++sitesM (l.drop (i+1)) (i+1))):= by
   intro b hb
   apply ev_step
   simp only [spec_Sites.j2,wrap_next i (by omega),Option.bind_some,List.length_cons,List.length_nil]
   by_cases h:l[i].f0=3\/l[i].f0=5\/l[i].f0=19
   ·rw [hb.2 h]
    simp only [if_true,if_pos s1]
    refine next _ ?_
    rcases h with h|h|h <;> rw [h] <;> rfl
   ·have:b=false:= by
     cases b
     ·rfl
     ·exact absurd (hb.1 rfl) h
    rw [this]
    simp only [Bool.false_eq_true,if_false]
    by_cases h6:l[i].f0=6
    ·simp only [if_pos h6,if_pos s2]
     refine next _ ?_
     rw [h6]
     rfl
    ·simp only [if_neg h6]
     by_cases h14:l[i].f0=14
     ·simp only [if_pos h14,if_pos s2]
      refine next _ ?_
      rw [h14]
      rfl
     ·simp only [if_neg h14]
      have:= next [] ?_
      ·simpa using this
      ·unfold siteM nm
       split
       ·rfl
       ·rename_i h1
        rw [if_neg (by omega),if_neg (by omega)]
        rfl
  apply ev_step
  simp only [spec_Sites.l0,if_pos d]
  refine ev_bind (spec_ok l (by omega) hs) ?_
  rw [ho]
  apply ev_step
  simp only [spec_Sites.j1,if_true,if_pos d,if_pos d0,rdN_get l i hi']
  by_cases h3:l[i].f0=3
  ·simp only [if_pos h3]
   exact j2 _ (by simp [h3])
  ·simp only [if_neg h3]
   by_cases h5:l[i].f0=5
   ·simp only [if_pos h5]
    exact j2 _ (by simp [h5])
   ·simp only [if_neg h5]
    exact j2 _ (by simp [h3,h5])
theorem impl_site1 (l:List S45) (q:Int) (i:Nat) (hi:i<1048576) (r:Nat) (hr:r<=2) {R:List S30} (m:Nat):∀ (j:Nat) (out:List S30),j+m=r->out.length+m<=1048576 ->
  Ev (fun k=>impl_Sites.l0 k (out++(List.range' j m).map fun (r:Nat)=>(⟨(i:Int),(r:Int)⟩:S30)) l q ((i+1:Nat):Int)) R ->
  Ev (fun k=>impl_Sites.l1 k out i l q i (r:Int) j) R:= by
 induction m with
 | zero =>
  intro j out hj ho h
  have d:¬ (j:Int)<(r:Int):= by omega
  apply ev_step
  simp only [impl_Sites.l1,if_neg d,wrap_next i (by omega)]
  simpa using h
 | succ m ih =>
  intro j out hj ho h
  have d:(j:Int)<(r:Int):= by omega
  have s:out.length<8796093022208:= by omega
  apply ev_step
  simp only [impl_Sites.l1,if_pos d,if_pos s,wrap_next j (by omega)]
  refine ih (j+1) _ (by omega) (by simp;omega) ?_
  rw [List.range'_succ,List.map_cons] at h
  rw [List.append_assoc]
  exact h
theorem impl_sites_loop (l:List S45) (hn:l.length<=150) (m:Nat):∀ (i:Nat) (out:List S30),i+m=l.length->out.length<=2*i ->
  Ev (fun k=>impl_Sites.l0 k out l (l.length:Int) i) (out++sitesM (l.drop i) i):= by
 induction m with
 | zero =>
  intro i out hi hl
  have d:¬ (i:Int)<(l.length:Int):= by omega
  rw [List.drop_of_length_le (by omega)]
  apply ev_step
  simp only [impl_Sites.l0,if_neg d]
  exact ev_eq (ev_const _) (by simp [sitesM])
 | succ m ih =>
  intro i out hi hl
  have d:(i:Int)<(l.length:Int):= by omega
  have d0:0<=(i:Int):= by omega
  have hi':i<l.length:= by omega
  have hb:= site_len i l[i].f0
  rw [List.drop_eq_getElem_cons hi',sitesM]
  have next:= ih (i+1) (out++siteM i l[i].f0) (by omega) (by rw [List.length_append];omega)
  rw [List.append_assoc] at next
  apply ev_step
  simp only [impl_Sites.l0,if_pos d,if_pos d0,rdN_get l i hi']
  by_cases h1:l[i].f0=1
  ·simp only [if_pos h1,wrap_next i (by omega)]
   have e:siteM i l[i].f0=[]:= by unfold siteM;rw [if_pos h1]
   rw [e] at next ⊢
   simpa using next
  ·simp only [if_neg h1]
   refine ev_bind (impl_nm _) ?_
   have hm:= nm_most l[i].f0
   refine impl_site1 l _ i (by omega) (nm l[i].f0) (by omega) (nm l[i].f0) 0 out (by omega) (by omega) ?_
   have e:siteM i l[i].f0=(List.range' 0 (nm l[i].f0)).map fun (r:Nat)=>(⟨(i:Int),(r:Int)⟩:S30):= by
    unfold siteM
    rw [if_neg h1,List.range_eq_range']
   rw [<- e]
   exact next
def allSites (l:List S45):List S30:= if okM l=true then sitesM l 0 else []
theorem spec_sites (l:List S45) (hn:l.length<=1048576) (hs:∀ x∈l,small x):Ev (fun k=>spec_Sites.f k l) (allSites l):= by
 unfold spec_Sites.f allSites
 cases ho:okM l
 ·apply ev_step
  simp only [spec_Sites.l0]
  have j1:Ev (fun k=>spec_Sites.j1 k l [] 0 false) []:= by
   apply ev_step
   simp only [spec_Sites.j1,Bool.false_eq_true,if_false]
   exact ev_const _
  simp only [Bool.false_eq_true,if_false]
  by_cases d:(0:Int)<(l.length:Int)
  ·simp only [if_pos d]
   refine ev_bind (spec_ok l hn hs) ?_
   rw [ho]
   exact j1
  ·simp only [if_neg d]
   exact j1
 ·obtain ⟨n1,n2,st,e1,tr,e2⟩:= ok_tree ho
  have:= spec_sites_loop l n2 hs ho l.length 0 [] (by omega) (by simp)
  simpa using this
theorem impl_sites (l:List S45) (hn:l.length<=1048576) (hs:∀ x∈l,small x):Ev (fun k=>impl_Sites.f k l) (allSites l):= by
 unfold impl_Sites.f allSites
 refine ev_bind (impl_ok l hn hs) ?_
 cases ho:okM l
 ·simp only [Bool.false_eq_true,if_false]
  exact ev_const _
 ·obtain ⟨n1,n2,st,e1,tr,e2⟩:= ok_tree ho
  have:= impl_sites_loop l n2 l.length 0 [] (by omega) (by simp)
  simpa using this
theorem all_len (l:List S45):(allSites l).length<=300:= by
 unfold allSites
 split
 ·rename_i ho
  obtain ⟨n1,n2,_⟩:= ok_tree ho
  have:= sites_len l 0
  omega
 ·simp
def hitM (l:List S45) (b0 b1:Int) (i:Nat):Bool:= (boundM l i).1 == b0 && (boundM l i).2 == b1
def usesM (l:List S45) (b0 b1:Int):Nat->Nat->List Int
 | 0,_=>[]
 | m+1,i=>(if hitM l b0 b1 i=true then [(i:Int)] else [])++usesM l b0 b1 m (i+1)
theorem uses_len (l:List S45) (b0 b1:Int):∀ m i,(usesM l b0 b1 m i).length<=m:= by
 intro m
 induction m with
 | zero=>intro i;simp [usesM]
 | succ m ih =>
  intro i
  rw [usesM,List.length_append]
  have:= ih (i+1)
  split <;> simp <;> omega
theorem spec_uses_loop {l:List S45} (hn:l.length<=150) (hs:∀ x∈l,small x) (ho:okM l=true) (b0 b1:Int) (hb:0<=b0) (m:Nat):∀ (i:Nat) (out:List Int),i+m=l.length->out.length<=i ->
  Ev (fun k=>spec_UsesOf.l0 k l out i b0 b1) (out++usesM l b0 b1 m i):= by
 induction m with
 | zero =>
  intro i out hi hl
  have d:¬ (i:Int)<(l.length:Int):= by omega
  apply ev_step
  simp only [spec_UsesOf.l0,if_neg d]
  apply ev_step
  simp only [spec_UsesOf.j1,Bool.false_eq_true,if_false]
  exact ev_eq (ev_const _) (by simp [usesM])
 | succ m ih =>
  intro i out hi hl
  have d:(i:Int)<(l.length:Int):= by omega
  have d0:0<=(i:Int):= by omega
  have hi':i<l.length:= by omega
  have s1:out.length<17592186044416:= by omega
  have hb':b0 >= 0:= hb
  have n0:= ih (i+1) out (by omega) (by omega)
  have n1:= ih (i+1) (out++[(i:Int)]) (by omega) (by simp;omega)
  rw [List.append_assoc] at n1
  rw [usesM]
  apply ev_step
  simp only [spec_UsesOf.l0,if_pos d]
  refine ev_bind (spec_ok l (by omega) hs) ?_
  rw [ho]
  simp only [if_true,decide_eq_true hb']
  apply ev_step
  simp only [spec_UsesOf.j1,if_true,if_pos d,if_pos d0,rdN_get l i hi',wrap_next i (by omega)]
  by_cases e1:l[i].f0=1
  ·simp only [if_pos e1]
   refine ev_bind (spec_binder l i (by omega) hs) ?_
   have eb:binderOfM l (i:Int)=boundM l i:= by
    unfold binderOfM
    rw [if_pos ⟨ho,by omega,by omega⟩,Int.toNat_natCast]
   rw [eb]
   by_cases e:hitM l b0 b1 i=true
   ·have e':= e
    unfold hitM at e'
    rw [if_pos e]
    simp only [e',if_true,if_pos s1]
    exact n1
   ·have e':= e
    unfold hitM at e'
    rw [if_neg e]
    simp only [if_neg e']
    exact n0
  ·have e:¬ hitM l b0 b1 i=true:= by
    unfold hitM boundM
    rw [rdN_get l i hi',if_neg e1]
    simp
    omega
   rw [if_neg e]
   simp only [if_neg e1]
   exact n0
def usesOfM (l:List S45) (b0 b1:Int):List Int:= if okM l=true/\0<=b0 then usesM l b0 b1 l.length 0 else []
theorem spec_uses (l:List S45) (b0 b1:Int) (hn:l.length<=1048576) (hs:∀ x∈l,small x):Ev (fun k=>spec_UsesOf.f k l b0 b1) (usesOfM l b0 b1):= by
 unfold spec_UsesOf.f usesOfM
 by_cases h:okM l=true/\0<=b0
 ·rw [if_pos h]
  obtain ⟨n1,n2,st,e1,tr,e2⟩:= ok_tree h.1
  have:= spec_uses_loop n2 hs h.1 b0 b1 h.2 l.length 0 [] (by omega) (by simp)
  simpa using this
 ·rw [if_neg h]
  have j1:Ev (fun k=>spec_UsesOf.j1 k l [] 0 false b0 b1) []:= by
   apply ev_step
   simp only [spec_UsesOf.j1,Bool.false_eq_true,if_false]
   exact ev_const _
  apply ev_step
  simp only [spec_UsesOf.l0]
  by_cases d:(0:Int)<(l.length:Int)
  ·simp only [if_pos d]
   refine ev_bind (spec_ok l hn hs) ?_
   cases ho:okM l
   ·simp only [Bool.false_eq_true,if_false]
    exact j1
   ·have hb:¬ b0 >= 0:= fun q=>h ⟨ho,q⟩
    simp only [if_true,decide_eq_false hb]
    exact j1
  ·simp only [if_neg d]
   exact j1
theorem fresh_loops (n:Nat):∀ x3:ByteArray,x3.size+n<=20000->∃ r,Ev (fun k=>spec_FreshName.l0 k (n:Int) x3) r/\Ev (fun k=>impl_FreshName.l0 k (n:Int) x3) r:= by
 induction n using Nat.strongRecOn with
 | _ n ih =>
  intro x3 hs
  by_cases h:(n:Int) > 0
  ·have e:wrap64 (Int.tdiv (n:Int) 26)=((n / 26:Nat):Int):= by
    rw [Int.tdiv_eq_ediv_of_nonneg (by omega)];unfold wrap64;omega
   have hc:(strOfNums [wrap64 (97+(Int.tmod (n:Int) 26)) % 256]).size=1:= rfl
   have hc2:(strOfNums [wrap64 (97+(Int.tmod (n:Int) 26)) % 256]).size+x3.size<=9223372036854775807:= by omega
   obtain ⟨r,h1,h2⟩:= ih (n / 26) (by omega) (strOfNums [wrap64 (97+(Int.tmod (n:Int) 26)) % 256]++x3) (by rw [ByteArray.size_append];omega)
   refine ⟨r,ev_step ?_,ev_step ?_⟩
   ·simp only [spec_FreshName.l0,if_pos h,Option.bind_some,e,if_pos hc2]
    exact h1
   ·simp only [impl_FreshName.l0,if_pos h,Option.bind_some,e,if_pos hc2]
    exact h2
  ·have hc2:2+x3.size<=9223372036854775807:= by omega
   refine ⟨(⟨#[122,113]⟩:ByteArray)++x3,ev_step ?_,ev_step ?_⟩
   ·simp only [spec_FreshName.l0,if_neg h,if_pos hc2]
    exact ev_const _
   ·simp only [impl_FreshName.l0,if_neg h,if_pos hc2]
    exact ev_const _
theorem fresh_some (a:Int):∃ r,Ev (fun k=>spec_FreshName.f k a) r/\Ev (fun k=>impl_FreshName.f k a) r/\(9999<a->r=⟨#[]⟩):= by
 unfold spec_FreshName.f impl_FreshName.f spec_l1In.f impl_in.f
 by_cases h:a >= 0
 ·by_cases h2:a<=9999
  ·have e:wrap64 (Int.tdiv a 26)=((a.toNat / 26:Nat):Int):= by
    rw [Int.tdiv_eq_ediv_of_nonneg (by omega)];unfold wrap64;omega
   obtain ⟨r,h3,h4⟩:= fresh_loops (a.toNat / 26) (strOfNums [wrap64 (97+(Int.tmod a 26)) % 256]) (by
    have:(strOfNums [wrap64 (97+(Int.tmod a 26)) % 256]).size=1:= rfl
    omega)
   refine ⟨r,?_,?_,fun q=>by omega⟩
   ·simp only [if_pos h,Option.bind_some,decide_eq_true h2,if_true,e]
    exact h3
   ·simp only [if_pos h,Option.bind_some,decide_eq_true h2,if_true,e]
    exact h4
  ·refine ⟨⟨#[]⟩,?_,?_,fun _=>rfl⟩
   ·simp only [if_pos h,Option.bind_some,decide_eq_false h2,Bool.false_eq_true,if_false]
    exact ev_const _
   ·simp only [if_pos h,Option.bind_some,decide_eq_false h2,Bool.false_eq_true,if_false]
    exact ev_const _
 ·refine ⟨⟨#[]⟩,?_,?_,fun _=>rfl⟩
  ·simp only [if_neg h,Option.bind_some,Bool.false_eq_true,if_false]
   exact ev_const _
  ·simp only [if_neg h,Option.bind_some,Bool.false_eq_true,if_false]
   exact ev_const _
noncomputable def freshN (a:Int):ByteArray:= Classical.choose (fresh_some a)
theorem spec_fresh (a:Int):Ev (fun k=>spec_FreshName.f k a) (freshN a):= (Classical.choose_spec (fresh_some a)).1
theorem impl_fresh (a:Int):Ev (fun k=>impl_FreshName.f k a) (freshN a):= (Classical.choose_spec (fresh_some a)).2.1
theorem fresh_end (a:Int) (h:9999<a):freshN a=⟨#[]⟩:= (Classical.choose_spec (fresh_some a)).2.2 h
theorem has_texts (l:List ByteArray) (s:ByteArray) (hn:l.length<=100000) (m:Nat):∀ i:Nat,i+m=l.length ->
  Ev (fun k=>spec_l7HasText.l0 k l s i) (decide (key s∈(l.drop i).map key))/\Ev (fun k=>impl_hasText.l0 k s l (l.length:Int) i) (decide (key s∈(l.drop i).map key)):= by
 induction m with
 | zero =>
  intro i hi
  have d:¬ (i:Int)<(l.length:Int):= by omega
  rw [List.drop_of_length_le (by omega)]
  constructor
  ·apply ev_step
   simp only [spec_l7HasText.l0,if_neg d]
   exact ev_eq (ev_const _) (by simp)
  ·apply ev_step
   simp only [impl_hasText.l0,if_neg d]
   exact ev_eq (ev_const _) (by simp)
 | succ m ih =>
  intro i hi
  have d:(i:Int)<(l.length:Int):= by omega
  have d0:0<=(i:Int):= by omega
  have hi':i<l.length:= by omega
  obtain ⟨h1,h2⟩:= ih (i+1) (by omega)
  rw [List.drop_eq_getElem_cons hi',List.map_cons]
  by_cases e:l[i].toList=s.toList
  ·have hd:decide (key s∈key l[i]::(l.drop (i+1)).map key)=true:= decide_eq_true (List.mem_cons.2 (Or.inl e.symm))
   rw [hd]
   constructor
   ·apply ev_step
    simp only [spec_l7HasText.l0,if_pos d,if_pos d0,rdStr_get l i hi',if_pos e]
    exact ev_const _
   ·apply ev_step
    simp only [impl_hasText.l0,if_pos d,if_pos d0,rdStr_get l i hi',if_pos e]
    exact ev_const _
  ·have hd:decide (key s∈key l[i]::(l.drop (i+1)).map key)=decide (key s∈(l.drop (i+1)).map key):= by
    have e':¬ key s=key l[i]:= fun q=>e q.symm
    simp only [List.mem_cons,e',false_or]
   rw [hd]
   constructor
   ·apply ev_step
    simp only [spec_l7HasText.l0,if_pos d,if_pos d0,rdStr_get l i hi',if_neg e,wrap_next i (by omega)]
    exact h1
   ·apply ev_step
    simp only [impl_hasText.l0,if_pos d,if_pos d0,rdStr_get l i hi',if_neg e,wrap_next i (by omega)]
    exact h2
noncomputable def usedM (free:List ByteArray) (k:Nat):Bool:= decide (key (freshN (k:Int))∈free.map key)
theorem spec_hasT (free:List ByteArray) (hn:free.length<=100000) (k:Nat):Ev (fun n=>spec_l7HasText.f n free (freshN (k:Int))) (usedM free k):= by
 unfold spec_l7HasText.f usedM
 have:= (has_texts free (freshN (k:Int)) hn free.length 0 (by omega)).1
 rw [List.drop_zero] at this
 exact this
theorem impl_hasT (free:List ByteArray) (hn:free.length<=100000) (k:Nat):Ev (fun n=>impl_hasText.f n free (freshN (k:Int))) (usedM free k):= by
 unfold impl_hasText.f usedM
 have:= (has_texts free (freshN (k:Int)) hn free.length 0 (by omega)).2
 rw [List.drop_zero] at this
 exact this
noncomputable def nextM (free:List ByteArray):Nat->Nat->Nat
 | 0,k=>k
 | m+1,k=>if usedM free k=true then nextM free m (k+1) else k
theorem next_most (free:List ByteArray):∀ m k,k<=nextM free m k/\nextM free m k<=k+m:= by
 intro m
 induction m with
 | zero=>intro k;exact ⟨Nat.le_refl _,Nat.le_refl _⟩
 | succ m ih =>
  intro k
  rw [nextM]
  have:= ih (k+1)
  split <;> omega
theorem used_end {free:List ByteArray} (hf:∀ x∈free,x.toList≠[]) (k:Nat) (h:10000<=k):usedM free k=false:= by
 unfold usedM
 rw [fresh_end _ (by omega)]
 refine decide_eq_false (fun q=>?_)
 rw [key_mem] at q
 exact hf _ q (by rw [ByteArray.toList_eq])
def fuelM (k:Nat):Nat:= 10000 - k
def giveM (n:S45) (r:Int) (s:ByteArray):S45:= if r=0 then ⟨n.f0,n.f1,n.f2,n.f3,n.f4,s,n.f6⟩ else ⟨n.f0,n.f1,n.f2,n.f3,n.f4,n.f5,s⟩
def callM (n:S45) (s:ByteArray):S45:= ⟨n.f0,n.f1,n.f2,n.f3,n.f4,s,n.f6⟩
def renU (l:List S45) (b0 b1:Int) (s:ByteArray):Nat->Nat->List S45->List S45
 | 0,_,out=>out
 | m+1,i,out=>renU l b0 b1 s m (i+1) (if hitM l b0 b1 i=true then out.set i (callM (rd_T45 out (i:Int)) s) else out)
theorem renU_len (l:List S45) (b0 b1:Int) (s:ByteArray):∀ m i out,(renU l b0 b1 s m i out).length=out.length:= by
 intro m
 induction m with
 | zero=>intro i out;rfl
 | succ m ih =>
  intro i out
  rw [renU,ih]
  split
  ·rw [List.length_set]
  ·rfl
def renM (l:List S45) (out:List S45) (b0 b1:Int) (s:ByteArray):List S45:= renU l b0 b1 s l.length 0 (out.set b0.toNat (giveM (rd_T45 out b0) b1 s))
theorem renM_len (l out:List S45) (b0 b1:Int) (s:ByteArray):(renM l out b0 b1 s).length=out.length:= by
 unfold renM
 rw [renU_len,List.length_set]
theorem impl_ren_loop (l:List S45) (hn:l.length<=150) (b0 b1:Int) (s:ByteArray) (m:Nat):∀ (i:Nat) (out:List S45),i+m=l.length->out.length=l.length ->
  Ev (fun k=>impl_rename.l0 k out s (boundsM l) ((boundsM l).length:Int) i b0 b1) (renU l b0 b1 s m i out):= by
 induction m with
 | zero =>
  intro i out hi ho
  have d:¬ (i:Int)<((boundsM l).length:Int):= by rw [bounds_len];omega
  apply ev_step
  simp only [impl_rename.l0,if_neg d]
  exact ev_const _
 | succ m ih =>
  intro i out hi ho
  have d:(i:Int)<((boundsM l).length:Int):= by rw [bounds_len];omega
  have d0:0<=(i:Int):= by omega
  have d1:(i:Int)<(out.length:Int):= by omega
  have hi':i<l.length:= by omega
  rw [renU]
  apply ev_step
  simp only [impl_rename.l0,if_pos d,if_pos d0,bounds_get l i hi',wrap_next i (by omega),cB]
  by_cases e:hitM l b0 b1 i=true
  ·have e':= e
   unfold hitM at e'
   rw [if_pos e]
   simp only [e',if_true,if_pos d1,Int.toNat_natCast]
   exact ih (i+1) _ (by omega) (by rw [List.length_set];exact ho)
  ·have e':= e
   unfold hitM at e'
   rw [if_neg e]
   simp only [if_neg e']
   exact ih (i+1) out (by omega) ho
theorem spec_ren_loop (l:List S45) (hn:l.length<=150) (b0 b1:Int) (s:ByteArray) (us:List Int) (hu:us.length<=150) (m:Nat):∀ (i:Nat) (j:Nat) (out:List S45),i+m=l.length->out.length=l.length->us.drop j=usesM l b0 b1 m i->j<=us.length ->
  Ev (fun k=>spec_l7Set.l0 k out us s j) (renU l b0 b1 s m i out):= by
 induction m with
 | zero =>
  intro i j out hi ho hd hj
  rw [usesM] at hd
  have:us.length<=j:= List.drop_eq_nil_iff.1 hd
  have d:¬ (j:Int)<(us.length:Int):= by omega
  apply ev_step
  simp only [spec_l7Set.l0,if_neg d]
  exact ev_const _
 | succ m ih =>
  intro i j out hi ho hd hj
  rw [usesM] at hd
  rw [renU]
  by_cases e:hitM l b0 b1 i=true
  ·rw [if_pos e] at hd ⊢
   rw [List.singleton_append] at hd
   have hj':j<us.length:= by
    have:= congrArg List.length hd
    rw [List.length_drop,List.length_cons] at this
    omega
   rw [List.drop_eq_getElem_cons hj'] at hd
   injection hd with h1 h2
   have d:(j:Int)<(us.length:Int):= by omega
   have d0:0<=(j:Int):= by omega
   have d1:0<=(i:Int):= by omega
   have d2:(i:Int)<(out.length:Int):= by omega
   have hr:rd us (j:Int)=(i:Int):= by rw [rd_get us j hj',h1]
   apply ev_step
   simp only [spec_l7Set.l0,if_pos d,if_pos d0,hr,if_pos d1,if_pos d2,Int.toNat_natCast,wrap_next j (by omega)]
   exact ih (i+1) (j+1) _ (by omega) (by rw [List.length_set];exact ho) h2 (by omega)
  ·rw [if_neg e] at hd ⊢
   rw [List.nil_append] at hd
   exact ih (i+1) j out (by omega) ho hd hj
theorem impl_ren (l:List S45) (hn:l.length<=150) (b0 b1:Int) (h0:0<=b0) (h1:b0<l.length) (s:ByteArray) (out:List S45) (ho:out.length=l.length) :
  Ev (fun k=>impl_rename.f k out (boundsM l) b0 b1 s) (renM l out b0 b1 s):= by
 have c1:b0<(out.length:Int):= by omega
 unfold impl_rename.f renM giveM
 by_cases c:b1=0
 ·simp only [if_pos c,if_pos h0,if_pos c1]
  apply ev_step
  simp only [impl_rename.j0]
  exact impl_ren_loop l hn b0 b1 s l.length 0 _ (by omega) (by rw [List.length_set];exact ho)
 ·simp only [if_neg c,if_pos h0,if_pos c1]
  apply ev_step
  simp only [impl_rename.j0]
  exact impl_ren_loop l hn b0 b1 s l.length 0 _ (by omega) (by rw [List.length_set];exact ho)
theorem spec_ren (l:List S45) (hn:l.length<=150) (b0 b1:Int) (h0:0<=b0) (h1:b0<l.length) (s:ByteArray) (out:List S45) (ho:out.length=l.length) :
  Ev (fun k=>spec_l7Set.f k out (usesM l b0 b1 l.length 0) b0 b1 s) (renM l out b0 b1 s):= by
 have c1:b0<(out.length:Int):= by omega
 have hu:(usesM l b0 b1 l.length 0).length<=150:= by
  have:= uses_len l b0 b1 l.length 0
  omega
 unfold spec_l7Set.f renM giveM
 by_cases c:b1=0
 ·simp only [if_pos c,if_pos h0,if_pos c1]
  apply ev_step
  simp only [spec_l7Set.j0]
  exact spec_ren_loop l hn b0 b1 s _ hu l.length 0 0 _ (by omega) (by rw [List.length_set];exact ho) (List.drop_zero) (by omega)
 ·simp only [if_neg c,if_pos h0,if_pos c1]
  apply ev_step
  simp only [spec_l7Set.j0]
  exact spec_ren_loop l hn b0 b1 s _ hu l.length 0 0 _ (by omega) (by rw [List.length_set];exact ho) (List.drop_zero) (by omega)
noncomputable def canL (l:List S45) (free:List ByteArray):List S30->Nat->List S45->List S45
 | [],_,out=>out
 | b::bs,k,out=>canL l free bs (nextM free (fuelM k) k+1) (renM l out b.f0 b.f1 (freshN ((nextM free (fuelM k) k:Nat):Int)))
theorem canL_len (l:List S45) (free:List ByteArray):∀ bs k out,(canL l free bs k out).length=out.length:= by
 intro bs
 induction bs with
 | nil=>intro k out;rfl
 | cons b bs ih =>
  intro k out
  rw [canL,ih,renM_len]
theorem spec_skip {l out:List S45} {free:List ByteArray} (hf:∀ x∈free,x.toList≠[]) (hn:free.length<=100000) (sites:List S30) (hl:sites.length<=300) (i:Nat) (hi:i<sites.length) {R:List S45} (m:Nat):∀ k:Nat,10000<=k+m->k<=20000 ->
  Ev (fun n=>(spec_UsesOf.f n l sites[i].f0 sites[i].f1).bind fun u=>(spec_FreshName.f n ((nextM free m k:Nat):Int)).bind fun t=>(spec_l7Set.f n out u sites[i].f0 sites[i].f1 t).bind fun o=>spec_Canon.l0 n l o free sites ((nextM free m k+1:Nat):Int) ((i+1:Nat):Int)) R ->
  Ev (fun n=>spec_Canon.l1 n l out free sites (k:Int) (i:Int)) R:= by
 have d0:0<=(i:Int):= by omega
 have d1:(i:Int)<(sites.length:Int):= by omega
 induction m with
 | zero =>
  intro k h1 h2 h
  rw [nextM] at h
  apply ev_step
  simp only [spec_Canon.l1]
  refine ev_bind (spec_fresh _) (ev_bind (spec_hasT free hn k) ?_)
  rw [used_end hf k (by omega)]
  simp only [Bool.false_eq_true,if_false,if_pos d0,if_pos d1,rdB_get sites i hi,wrap_next k (by omega),wrap_next i (by omega)]
  exact h
 | succ m ih =>
  intro k h1 h2 h
  rw [nextM] at h
  apply ev_step
  simp only [spec_Canon.l1]
  refine ev_bind (spec_fresh _) (ev_bind (spec_hasT free hn k) ?_)
  by_cases c:usedM free k=true
  ·have hk:k<10000:= by
    rcases Nat.lt_or_ge k 10000 with q|q
    ·exact q
    ·rw [used_end hf k q] at c
     cases c
   rw [if_pos c] at h
   simp only [c,if_true,wrap_next k (by omega)]
   exact ih (k+1) (by omega) (by omega) h
  ·rw [if_neg c] at h
   simp only [if_neg c,if_pos d0,if_pos d1,rdB_get sites i hi,wrap_next k (by omega),wrap_next i (by omega)]
   exact h
theorem impl_skip {out:List S45} {bs:List S30} {free:List ByteArray} (hf:∀ x∈free,x.toList≠[]) (hn:free.length<=100000) (sites:List S30) (hl:sites.length<=300) (i:Nat) (hi:i<sites.length) (b0 b1:Int) {R:List S45} (m:Nat):∀ k:Nat,10000<=k+m->k<=20000 ->
  Ev (fun n=>(impl_FreshName.f n ((nextM free m k:Nat):Int)).bind fun t=>(impl_rename.f n out bs b0 b1 t).bind fun o=>impl_Canon.l0 n o bs free ((nextM free m k+1:Nat):Int) sites (sites.length:Int) ((i+1:Nat):Int)) R ->
  Ev (fun n=>impl_Canon.l1 n out bs free (k:Int) sites (sites.length:Int) (i:Int) b0 b1) R:= by
 induction m with
 | zero =>
  intro k h1 h2 h
  rw [nextM] at h
  apply ev_step
  simp only [impl_Canon.l1]
  refine ev_bind (impl_fresh _) (ev_bind (impl_hasT free hn k) ?_)
  rw [used_end hf k (by omega)]
  simp only [Bool.false_eq_true,if_false,wrap_next k (by omega),wrap_next i (by omega)]
  exact h
 | succ m ih =>
  intro k h1 h2 h
  rw [nextM] at h
  apply ev_step
  simp only [impl_Canon.l1]
  refine ev_bind (impl_fresh _) (ev_bind (impl_hasT free hn k) ?_)
  by_cases c:usedM free k=true
  ·have hk:k<10000:= by
    rcases Nat.lt_or_ge k 10000 with q|q
    ·exact q
    ·rw [used_end hf k q] at c
     cases c
   rw [if_pos c] at h
   simp only [c,if_true,wrap_next k (by omega)]
   exact ih (k+1) (by omega) (by omega) h
  ·rw [if_neg c] at h
   simp only [if_neg c,wrap_next k (by omega),wrap_next i (by omega)]
   exact h
theorem spec_can {l:List S45} (ho:okM l=true) (h2:l.length<=150) (hs:∀ x∈l,small x) {free:List ByteArray} (hf:∀ x∈free,x.toList≠[]) (hn:free.length<=100000) (sites:List S30) (hl:sites.length<=300) (hb:∀ b∈sites,0<=b.f0/\b.f0<l.length) (m:Nat) :
  ∀ (i k:Nat) (out:List S45),i+m=sites.length->k<=10000+i->out.length=l.length->Ev (fun n=>spec_Canon.l0 n l out free sites (k:Int) (i:Int)) (canL l free (sites.drop i) k out):= by
 induction m with
 | zero =>
  intro i k out hi hk hq
  have d:¬ (i:Int)<(sites.length:Int):= by omega
  rw [List.drop_of_length_le (by omega)]
  apply ev_step
  simp only [spec_Canon.l0,if_neg d]
  exact ev_const _
 | succ m ih =>
  intro i k out hi hk hq
  have d:(i:Int)<(sites.length:Int):= by omega
  have hi':i<sites.length:= by omega
  obtain ⟨b0,b1⟩:= hb _ (List.getElem_mem hi')
  rw [List.drop_eq_getElem_cons hi',canL]
  apply ev_step
  simp only [spec_Canon.l0,if_pos d]
  have hm:= next_most free (fuelM k) k
  refine spec_skip hf hn sites hl i hi' (fuelM k) k (by unfold fuelM;omega) (by omega) ?_
  have eu:usesOfM l sites[i].f0 sites[i].f1=usesM l sites[i].f0 sites[i].f1 l.length 0:= by
   unfold usesOfM
   rw [if_pos ⟨ho,b0⟩]
  have u:= spec_uses l sites[i].f0 sites[i].f1 (by omega) hs
  rw [eu] at u
  refine ev_bind u (ev_bind (spec_fresh _) (ev_bind (spec_ren l h2 _ _ b0 b1 _ out hq) ?_))
  exact ih (i+1) _ _ (by omega) (by unfold fuelM at hm ⊢;omega) (by rw [renM_len];exact hq)
theorem impl_can {l:List S45} (h2:l.length<=150) {free:List ByteArray} (hf:∀ x∈free,x.toList≠[]) (hn:free.length<=100000) (sites:List S30) (hl:sites.length<=300) (hb:∀ b∈sites,0<=b.f0/\b.f0<l.length) (m:Nat) :
  ∀ (i k:Nat) (out:List S45),i+m=sites.length->k<=10000+i->out.length=l.length->Ev (fun n=>impl_Canon.l0 n out (boundsM l) free (k:Int) sites (sites.length:Int) (i:Int)) (canL l free (sites.drop i) k out):= by
 induction m with
 | zero =>
  intro i k out hi hk hq
  have d:¬ (i:Int)<(sites.length:Int):= by omega
  rw [List.drop_of_length_le (by omega)]
  apply ev_step
  simp only [impl_Canon.l0,if_neg d]
  exact ev_const _
 | succ m ih =>
  intro i k out hi hk hq
  have d:(i:Int)<(sites.length:Int):= by omega
  have d0:0<=(i:Int):= by omega
  have hi':i<sites.length:= by omega
  obtain ⟨b0,b1⟩:= hb _ (List.getElem_mem hi')
  rw [List.drop_eq_getElem_cons hi',canL]
  apply ev_step
  simp only [impl_Canon.l0,if_pos d,if_pos d0,rdB_get sites i hi']
  have hm:= next_most free (fuelM k) k
  refine impl_skip hf hn sites hl i hi' _ _ (fuelM k) k (by unfold fuelM;omega) (by omega) ?_
  refine ev_bind (impl_fresh _) (ev_bind (impl_ren l h2 _ _ b0 b1 _ out hq) ?_)
  exact ih (i+1) _ _ (by omega) (by unfold fuelM at hm ⊢;omega) (by rw [renM_len];exact hq)
theorem sites_in:∀ (l:List S45) (i:Nat),∀ b∈sitesM l i,(i:Int)<=b.f0/\b.f0<(i:Int)+l.length:= by
 intro l
 induction l with
 | nil=>intro i b hb;simp [sitesM] at hb
 | cons n ns ih =>
  intro i b hb
  rw [sitesM,List.mem_append] at hb
  rw [List.length_cons]
  rcases hb with hb|hb
  ·unfold siteM at hb
   split at hb
   ·simp at hb
   ·rw [List.mem_map] at hb
    obtain ⟨r,_,rfl⟩:= hb
    exact ⟨Int.le_refl _,by simp only;omega⟩
  ·have:= ih (i+1) b hb
   omega
theorem frees_some {l:List S45} {st:List Int} (h:Tree l st):∀ m i,i+m<=l.length->∀ x∈freesM l m i,x.toList≠[]:= by
 intro m
 induction m with
 | zero=>intro i _ x hx;simp [freesM] at hx
 | succ m ih =>
  intro i hi x hx
  have hi':i<l.length:= by omega
  rw [freesM,List.mem_append] at hx
  rcases hx with hx|hx
  ·split at hx
   ·rename_i q
    have e1:= q.1
    rw [List.mem_singleton] at hx
    rw [rdN_get l i hi'] at hx e1
    have hk:= (h.node i hi').1
    unfold fieldsM at hk
    simp only [Bool.and_eq_true] at hk
    have h5:= hk.2.2.1
    rw [e1] at h5
    rw [hx]
    exact name_some (by simpa [fitsM,nm] using h5)
   ·simp at hx
  ·exact ih (i+1) (by omega) x hx
noncomputable def canonM (l:List S45):List S45:= if okM l=true then canL l (freeM l) (allSites l) 0 l else []
theorem canon_len (l:List S45):(canonM l).length<=150:= by
 unfold canonM
 split
 ·rename_i h
  obtain ⟨n1,n2,_⟩:= ok_tree h
  rw [canL_len]
  exact n2
 ·simp
theorem free_some {l:List S45} (ho:okM l=true):∀ x∈freeM l,x.toList≠[]:= by
 intro x hx
 obtain ⟨n1,n2,st,e1,tr,e2⟩:= ok_tree ho
 unfold freeM at hx
 rw [if_pos ho,(fold_ins (freesM l l.length 0) [] (by simp [Up])).2] at hx
 rcases hx with hx|hx
 ·exact frees_some tr l.length 0 (by omega) x hx
 ·simp at hx
theorem all_in {l:List S45} (ho:okM l=true):∀ b∈allSites l,0<=b.f0/\b.f0<l.length:= by
 intro b hb
 unfold allSites at hb
 rw [if_pos ho] at hb
 have:= sites_in l 0 b hb
 omega
theorem spec_canon (l:List S45) (hn:l.length<=1048576) (hs:∀ x∈l,small x):Ev (fun k=>spec_Canon.f k l) (canonM l):= by
 unfold spec_Canon.f canonM
 have c:([]:List S45).length+l.length<1954687338268:= by simp;omega
 simp only [Option.bind_some,if_pos c,List.nil_append]
 refine ev_bind (spec_ok l hn hs) ?_
 cases ho:okM l
 ·simp only [Bool.false_eq_true,if_false]
  exact ev_const _
 ·obtain ⟨n1,n2,st,e1,tr,e2⟩:= ok_tree ho
  simp only [if_true]
  refine ev_bind (spec_free l hn hs) (ev_bind (spec_sites l hn hs) ?_)
  have:= free_most l
  exact spec_can ho n2 hs (free_some ho) (by omega) (allSites l) (all_len l) (all_in ho) (allSites l).length 0 0 l (by omega) (by omega) rfl
theorem impl_canon (l:List S45) (hn:l.length<=1048576) (hs:∀ x∈l,small x):Ev (fun k=>impl_Canon.f k l) (canonM l):= by
 unfold impl_Canon.f canonM
 have c:([]:List S45).length+l.length<1954687338268:= by simp;omega
 have ec:impl_copyNodes.f l=some l:= by
  unfold impl_copyNodes.f
  rw [if_pos c,List.nil_append]
 refine ev_bind (impl_ok l hn hs) ?_
 cases ho:okM l
 ·simp only [Bool.false_eq_true,if_false]
  exact ev_const _
 ·obtain ⟨n1,n2,st,e1,tr,e2⟩:= ok_tree ho
  simp only [if_true,ec,Option.bind_some]
  refine ev_bind (impl_bounds tr n2) (ev_bind (impl_free l hn hs) (ev_bind (impl_sites l hn hs) ?_))
  have:= free_most l
  exact impl_can n2 (free_some ho) (by omega) (allSites l) (all_len l) (all_in ho) (allSites l).length 0 0 l (by omega) (by omega) rfl
def hitB (b0 b1:Int) (x:S30):Bool:= (x.f0 == b0) && (x.f1 == b1)
theorem give_small {n:S45} {r:Int} {s:ByteArray} (hn:small n) (hs:s.size<=1048576):small (giveM n r s):= by
 unfold giveM
 split
 ·exact ⟨hs,hn.2⟩
 ·exact ⟨hn.1,hs⟩
theorem set_small {l:List S45} (hl:∀ x∈l,small x) (i:Nat) (v:S45) (hv:i<l.length->small v):∀ x∈l.set i v,small x:= by
 intro x hx
 rcases Nat.lt_or_ge i l.length with h|h
 ·rcases List.mem_or_eq_of_mem_set hx with q|q
  ·exact hl x q
  ·rw [q];exact hv h
 ·rw [List.set_eq_of_length_le h] at hx
  exact hl x hx
theorem rd_small {l:List S45} (hl:∀ x∈l,small x) (i:Nat) (h:i<l.length):small (rd_T45 l (i:Int)):= by
 rw [rdN_get l i h]
 exact hl _ (List.getElem_mem h)
theorem renU_small (l:List S45) (b0 b1:Int) (s:ByteArray) (hs:s.size<=1048576) (m:Nat):∀ (i:Nat) (out:List S45),(∀ x∈out,small x)->∀ x∈renU l b0 b1 s m i out,small x:= by
 induction m with
 | zero=>intro i out ho;simpa only [renU] using ho
 | succ m ih =>
  intro i out ho
  simp only [renU]
  split
  ·refine ih (i+1) _ (set_small ho _ _ fun h=>?_)
   have:= rd_small ho i h
   exact ⟨hs,this.2⟩
  ·exact ih (i+1) _ ho
theorem renM_small {l out:List S45} (ho:∀ x∈out,small x) (b0 b1:Int) (h0:0<=b0) {s:ByteArray} (hs:s.size<=1048576):∀ x∈renM l out b0 b1 s,small x:= by
 unfold renM
 refine renU_small l b0 b1 s hs _ _ _ (set_small ho _ _ fun h=>give_small ?_ hs)
 have:= rd_small ho b0.toNat h
 rw [show ((b0.toNat:Nat):Int)=b0 by omega] at this
 exact this
def nmO (n:S45) (z:Bool):ByteArray:= if z=true then n.f6 else n.f5
def own (l:List S45) (i:Nat) (z:Bool):S30:= if z=true then ⟨i,1⟩ else if (rd_T45 l (i:Int)).f0=1 then cB (boundM l i) else ⟨i,0⟩
def nmB (l:List S45) (b:S30):ByteArray:= if b.f1=1 then (rd_T45 l b.f0).f6 else (rd_T45 l b.f0).f5
def isS (l:List S45) (b:S30):Prop:= 0<=b.f0/\b.f0<l.length/\(rd_T45 l b.f0).f0≠1/\((b.f1=0/\0<nm (rd_T45 l b.f0).f0)\/(b.f1=1/\1<nm (rd_T45 l b.f0).f0))
def Sh1 (n m:S45):Prop:= m.f0=n.f0/\m.f1=n.f1/\m.f2=n.f2/\m.f3=n.f3/\m.f4=n.f4
theorem node_eq {n m:S45} (h:Sh1 n m) (h5:nmO m false=nmO n false) (h6:nmO m true=nmO n true):m=n:= by
 obtain ⟨a,b,c,d,e⟩:= h
 cases n
 cases m
 simp only [nmO,Bool.false_eq_true,if_false,if_true] at *
 subst a b c d e h5 h6
 rfl
theorem bind_eq {a b:S30} (h:a.f0=b.f0) (k:a.f1=b.f1):a=b:= by
 cases a
 cases b
 simp only at h k
 subst h k
 rfl
theorem list_eq {l m:List S45} (hl:m.length=l.length) (h:∀ i:Nat,i<l.length->rd_T45 m (i:Int)=rd_T45 l (i:Int)):m=l:= by
 apply List.ext_getElem hl
 intro i h1 h2
 have:= h i h2
 rwa [rdN_get m i h1,rdN_get l i h2] at this
theorem rdN_set (x:List S45) (a:Nat) (v:S45) (c:Nat) (hc:c<x.length):rd_T45 (x.set a v) (c:Int)=if c=a then v else rd_T45 x (c:Int):= by
 rw [rdN_get _ c (by rw [List.length_set];exact hc),rdN_get x c hc,List.getElem_set]
 by_cases e:c=a
 ·rw [if_pos e,if_pos e.symm]
 ·rw [if_neg e,if_neg (fun h=>e h.symm)]
def rolesM (n:S45) (kid:Int):List Int :=
 if n.f0=3 then [0] else if n.f0=5\/n.f0=19 then (if kid=n.f2 then [0] else [])
 else if n.f0=6 then (if kid=n.f1 then [1,0] else [0])
 else if n.f0=14 then (if kid=n.f3 then [1,0] else []) else []
theorem bn_roles (n:S45) (kid:Int):bnM n kid=((rolesM n kid).map (fun r=>if r=1 then n.f6 else n.f5),rolesM n kid):= by
 unfold bnM rolesM
 repeat' split
 all_goals rfl
theorem roles_site {n:S45} {kid r:Int} (h:r∈rolesM n kid):n.f0≠1/\((r=0/\0<nm n.f0)\/(r=1/\1<nm n.f0)):= by
 unfold rolesM at h
 unfold nm
 repeat' split at h
 all_goals (simp only [List.mem_cons,List.not_mem_nil,or_false] at h)
 all_goals (repeat' split)
 all_goals omega
theorem seek_find (f:Int->ByteArray) (s:ByteArray):∀ rs:List Int,seekM (rs.map f) rs s=rs.find? (fun r=>decide ((f r).toList=s.toList))
 | []=>rfl
 | r::rs=>by
  rw [List.map_cons,seekM,List.find?_cons,seek_find f s rs]
  by_cases e:(f r).toList=s.toList
  ·rw [if_pos e,decide_eq_true e]
  ·rw [if_neg e,decide_eq_false e]
def scopeM (l:List S45):Nat->Int->List S30
 | 0,_=>[]
 | m+1,i=>if 0<=upM l l.length i then ((rolesM (rd_T45 l (upM l l.length i)) i).map fun r=>⟨upM l l.length i,r⟩)++scopeM l m (upM l l.length i) else []
def hitB2 (l:List S45) (s:ByteArray) (b:S30):Bool:= decide ((nmB l b).toList=s.toList)
theorem find_map' {α β:Type} (f:α->β) (p:β->Bool):∀ l:List α,(l.map f).find? p=(l.find? (fun a=>p (f a))).map f
 | []=>rfl
 | a::l=>by
  rw [List.map_cons,List.find?_cons,List.find?_cons,find_map' f p l]
  cases p (f a) <;> rfl
theorem binder_scope (l:List S45) (s:ByteArray):∀ m i,cB (binderM l m i s)=((scopeM l m i).find? (hitB2 l s)).getD ⟨-1,-1⟩
 | 0,_=>rfl
 | m+1,i=>by
  rw [binderM,scopeM]
  by_cases h:0<=upM l l.length i
  ·rw [if_pos h,if_pos h,bn_roles,List.find?_append,find_map',seek_find]
   have ih:= binder_scope l s m (upM l l.length i)
   generalize upM l l.length i=u at *
   have e:(fun r:Int=>hitB2 l s ⟨u,r⟩)=(fun r:Int=>decide ((if r=1 then (rd_T45 l u).f6 else (rd_T45 l u).f5).toList=s.toList)):= rfl
   rw [e]
   cases hq:(rolesM (rd_T45 l u) i).find? (fun r:Int=>decide ((if r=1 then (rd_T45 l u).f6 else (rd_T45 l u).f5).toList=s.toList)) with
   | some r=>rfl
   | none=>exact ih
  ·rw [if_neg h,if_neg h]
   rfl
theorem scope_site (l:List S45):∀ m i,∀ b∈scopeM l m i,isS l b
 | 0,_=>by simp [scopeM]
 | m+1,i=>by
  intro b hb
  rw [scopeM] at hb
  split at hb
  ·rename_i h
   rcases List.mem_append.1 hb with hb|hb
   ·obtain ⟨r,hr,rfl⟩:= List.mem_map.1 hb
    have:= (up_range l i l.length).1
    exact ⟨h,this,(roles_site hr).1,(roles_site hr).2⟩
   ·exact scope_site l m _ b hb
  ·cases hb
structure Sh (l x:List S45):Prop where
 len:x.length=l.length
 one:∀ i:Nat,i<l.length->Sh1 (rd_T45 l (i:Int)) (rd_T45 x (i:Int))
theorem Sh.kids {l x:List S45} (h:Sh l x) (i:Nat):kidsAt x i=kidsAt l i:= by
 by_cases hi:i<l.length
 ·obtain ⟨a,b,c,d,e⟩:= h.one i hi
  have hx:i<x.length:= by rw [h.len];exact hi
  rw [rdN_get l i hi,rdN_get x i hx] at a b c d e
  rw [kidsAt_get l i hi,kidsAt_get x i hx]
  unfold kidsM
  rw [a,b,c,d]
 ·unfold kidsAt
  have:= h.len
  rw [List.getElem?_eq_none (show x.length<=i by omega),List.getElem?_eq_none (show l.length<=i by omega)]
theorem Sh.up {l x:List S45} (h:Sh l x) (c:Int):∀ m,upM x m c=upM l m c
 | 0=>rfl
 | m+1=>by rw [upM,upM,h.kids m,h.up c m]
theorem Sh.scope {l x:List S45} (h:Sh l x):∀ m i,scopeM x m i=scopeM l m i
 | 0,_=>rfl
 | m+1,i=>by
  rw [scopeM,scopeM,h.len,h.up]
  split
  ·rename_i hu
   obtain ⟨u,hu2⟩:∃ u:Nat,upM l l.length i=(u:Int):= ⟨(upM l l.length i).toNat,by omega⟩
   have hr:= (up_range l i l.length).1
   rw [hu2] at hr ⊢
   obtain ⟨a,b,c,d,e⟩:= h.one u (by omega)
   have er:rolesM (rd_T45 x (u:Int)) i=rolesM (rd_T45 l (u:Int)) i:= by
    unfold rolesM
    rw [a,b,c,d]
   rw [er,h.scope m u]
  ·rfl
theorem find_keep {α:Type} {p q:α->Bool}:∀ L:List α,(∀ b∈L,q b=true->p b=true)->(∀ b,L.find? p=some b->q b=true)->L.find? q=L.find? p
 | [],_,_=>rfl
 | b::L,h1,h2=>by
  rw [List.find?_cons] at h2 ⊢
  rw [List.find?_cons]
  cases hp:p b
  ·have:q b=false:= by
    cases hq:q b
    ·rfl
    ·rw [h1 b List.mem_cons_self hq] at hp;cases hp
   rw [hp] at h2
   rw [this]
   exact find_keep L (fun c hc=>h1 c (List.mem_cons_of_mem _ hc)) h2
  ·rw [hp] at h2
   rw [h2 b rfl]
theorem bound_cases (l:List S45) (i:Nat) (hk:(rd_T45 l (i:Int)).f0=1) :
  cB (boundM l i)=⟨-1,-1⟩/\(scopeM l l.length i).find? (hitB2 l (rd_T45 l (i:Int)).f5)=none\/∃ b∈scopeM l l.length i,(scopeM l l.length i).find? (hitB2 l (rd_T45 l (i:Int)).f5)=some b/\cB (boundM l i)=b/\(nmB l b).toList=(rd_T45 l (i:Int)).f5.toList:= by
 unfold boundM
 rw [if_pos hk,binder_scope]
 cases hf:(scopeM l l.length i).find? (hitB2 l (rd_T45 l (i:Int)).f5) with
 | none=>exact Or.inl ⟨rfl,rfl⟩
 | some b=>exact Or.inr ⟨b,List.mem_of_find?_eq_some hf,rfl,rfl,of_decide_eq_true (show hitB2 l (rd_T45 l (i:Int)).f5 b=true from List.find?_some hf)⟩
theorem bound_keep {l x:List S45} (h:Sh l x) (i:Nat) (hi:i<l.length)
  (k1:(rd_T45 l (i:Int)).f0=1->∀ b∈scopeM l l.length i,(nmB x b).toList=(rd_T45 x (i:Int)).f5.toList->(nmB l b).toList=(rd_T45 l (i:Int)).f5.toList)
  (k2:(rd_T45 l (i:Int)).f0=1->∀ b∈scopeM l l.length i,cB (boundM l i)=b->(nmB x b).toList=(rd_T45 x (i:Int)).f5.toList):boundM x i=boundM l i:= by
 have a:= (h.one i hi).1
 by_cases hk:(rd_T45 l (i:Int)).f0=1
 ·have hx:(rd_T45 x (i:Int)).f0=1:= by rw [a];exact hk
  have e:cB (boundM x i)=cB (boundM l i):= by
   have e1:cB (boundM x i)=((scopeM l l.length i).find? (hitB2 x (rd_T45 x (i:Int)).f5)).getD ⟨-1,-1⟩:= by
    unfold boundM
    rw [if_pos hx,binder_scope,h.len,h.scope]
   have e2:cB (boundM l i)=((scopeM l l.length i).find? (hitB2 l (rd_T45 l (i:Int)).f5)).getD ⟨-1,-1⟩:= by
    unfold boundM
    rw [if_pos hk,binder_scope]
   rw [e1,find_keep (p:= hitB2 l (rd_T45 l (i:Int)).f5) (q:= hitB2 x (rd_T45 x (i:Int)).f5) _ (fun b hb q=>decide_eq_true (k1 hk b hb (of_decide_eq_true q))) (fun b hb=>decide_eq_true (k2 hk b (List.mem_of_find?_eq_some hb) (by rw [e2,hb];rfl))),e2]
  have q1:= congrArg S30.f0 e
  have q2:= congrArg S30.f1 e
  exact Prod.ext q1 q2
 ·unfold boundM
  rw [a,if_neg hk,if_neg hk]
theorem renU_rd (l:List S45) (b0 b1:Int) (s:ByteArray) (m:Nat):∀ (i:Nat) (out:List S45),i+m=l.length->out.length=l.length->∀ j:Nat,j<l.length->rd_T45 (renU l b0 b1 s m i out) (j:Int)=if i<=j/\hitM l b0 b1 j=true then callM (rd_T45 out (j:Int)) s else rd_T45 out (j:Int):= by
 induction m with
 | zero =>
  intro i out hi ho j hj
  rw [renU,if_neg (by omega)]
 | succ m ih =>
  intro i out hi ho j hj
  rw [renU,ih (i+1) _ (by omega) (by split <;> simp [ho]) j hj]
  by_cases e:j=i
  ·subst e
   rw [if_neg (by omega)]
   by_cases hh:hitM l b0 b1 j=true
   ·rw [if_pos hh,rdN_set _ _ _ _ (by omega),if_pos rfl,if_pos ⟨Nat.le_refl _,hh⟩]
   ·rw [if_neg hh,if_neg (fun q=>hh q.2)]
  ·have e2:rd_T45 (if hitM l b0 b1 i=true then out.set i (callM (rd_T45 out (i:Int)) s) else out) (j:Int)=rd_T45 out (j:Int):= by
    split
    ·rw [rdN_set _ _ _ _ (by omega),if_neg e]
    ·rfl
   rw [e2]
   by_cases hh:hitM l b0 b1 j=true
   ·by_cases hij:i<=j
    ·rw [if_pos ⟨by omega,hh⟩,if_pos ⟨hij,hh⟩]
    ·rw [if_neg (fun q=>by omega),if_neg (fun q=>hij q.1)]
   ·rw [if_neg (fun q=>hh q.2),if_neg (fun q=>hh q.2)]
theorem hit_own {l:List S45} {b:S30} (hb:isS l b) (j:Nat):hitM l b.f0 b.f1 j=true↔(rd_T45 l (j:Int)).f0=1/\own l j false=b:= by
 have e:hitM l b.f0 b.f1 j=true↔cB (boundM l j)=b:= by
  unfold hitM
  rw [Bool.and_eq_true,beq_iff_eq,beq_iff_eq]
  exact ⟨fun h=>bind_eq h.1 h.2,fun h=>by rw [<- h];exact ⟨rfl,rfl⟩⟩
 rw [e]
 unfold own
 by_cases hk:(rd_T45 l (j:Int)).f0=1
 ·simp only [Bool.false_eq_true,if_false,if_pos hk]
  exact ⟨fun h=>⟨hk,h⟩,fun h=>h.2⟩
 ·refine ⟨fun h=>?_,fun h=>absurd h.1 hk⟩
  have h0:= hb.1
  unfold boundM at h
  rw [if_neg hk] at h
  rw [<- h] at h0
  simp [cB] at h0
theorem renM_at {l out:List S45} {b:S30} (s:ByteArray) (hb:isS l b) (ho:out.length=l.length) (j:Nat) (hj:j<l.length) :
  Sh1 (rd_T45 out (j:Int)) (rd_T45 (renM l out b.f0 b.f1 s) (j:Int))/\∀ z,(own l j z=b->nmO (rd_T45 (renM l out b.f0 b.f1 s) (j:Int)) z=s)/\(own l j z≠b->nmO (rd_T45 (renM l out b.f0 b.f1 s) (j:Int)) z=nmO (rd_T45 out (j:Int)) z):= by
 obtain ⟨h0,h1,h2,h3⟩:= id hb
 have hbn:((b.f0.toNat:Nat):Int)=b.f0:= by omega
 have e:rd_T45 (renM l out b.f0 b.f1 s) (j:Int)=if hitM l b.f0 b.f1 j=true then callM (if j=b.f0.toNat then giveM (rd_T45 out b.f0) b.f1 s else rd_T45 out (j:Int)) s else (if j=b.f0.toNat then giveM (rd_T45 out b.f0) b.f1 s else rd_T45 out (j:Int)):= by
  unfold renM
  rw [renU_rd l b.f0 b.f1 s l.length 0 _ (by omega) (by rw [List.length_set];exact ho) j hj,rdN_set _ _ _ _ (by omega)]
  simp only [Nat.zero_le,true_and]
 rw [e]
 by_cases hk:(rd_T45 l (j:Int)).f0=1
 ·have hne:j≠b.f0.toNat:= fun q=>h2 (by rw [<- hbn,<- q];exact hk)
  rw [if_neg hne]
  by_cases hh:hitM l b.f0 b.f1 j=true
  ·rw [if_pos hh]
   have:= ((hit_own hb j).1 hh).2
   refine ⟨⟨rfl,rfl,rfl,rfl,rfl⟩,fun z=>?_⟩
   cases z
   ·exact ⟨fun _=>rfl,fun q=>absurd this q⟩
   ·refine ⟨fun q=>?_,fun _=>rfl⟩
    exfalso
    rw [<- q] at hne
    simp [own] at hne
  ·rw [if_neg hh]
   refine ⟨⟨rfl,rfl,rfl,rfl,rfl⟩,fun z=>⟨fun q=>?_,fun _=>rfl⟩⟩
   exfalso
   cases z
   ·exact hh ((hit_own hb j).2 ⟨hk,q⟩)
   ·rw [<- q] at hne
    simp [own] at hne
 ·have hh:¬ hitM l b.f0 b.f1 j=true:= fun q=>hk ((hit_own hb j).1 q).1
  rw [if_neg hh]
  have o5:own l j false=⟨(j:Int),0⟩:= by unfold own;simp only [Bool.false_eq_true,if_false,if_neg hk]
  have o6:own l j true=⟨(j:Int),1⟩:= rfl
  by_cases hne:j=b.f0.toNat
  ·rw [if_pos hne,<- hbn,<- hne]
   have hj0:(j:Int)=b.f0:= by omega
   refine ⟨by unfold giveM;split <;> exact ⟨rfl,rfl,rfl,rfl,rfl⟩,fun z=>?_⟩
   cases z
   ·rw [o5]
    refine ⟨fun q=>?_,fun q=>?_⟩
    ·have:b.f1=0:= by rw [<- q]
     unfold giveM
     rw [if_pos this]
     rfl
    ·have:¬ b.f1=0:= fun w=>q (bind_eq hj0 w.symm)
     unfold giveM
     rw [if_neg this]
     rfl
   ·rw [o6]
    refine ⟨fun q=>?_,fun q=>?_⟩
    ·have:b.f1=1:= by rw [<- q]
     unfold giveM
     rw [if_neg (by omega)]
     rfl
    ·have:b.f1=0:= by
      rcases h3 with h3|h3
      ·exact h3.1
      ·exact absurd (bind_eq hj0 h3.1.symm) q
     unfold giveM
     rw [if_pos this]
     rfl
  ·rw [if_neg hne]
   refine ⟨⟨rfl,rfl,rfl,rfl,rfl⟩,fun z=>⟨fun q=>?_,fun _=>rfl⟩⟩
   exfalso
   apply hne
   cases z
   ·rw [o5] at q;rw [<- q];simp
   ·rw [o6] at q;rw [<- q];simp
theorem ev_uniq {α:Type} {g:Nat->Option α} {r q:α} (h:Ev g r) (k:Ev g q):r=q:= by
 obtain ⟨n,h⟩:= h
 obtain ⟨m,k⟩:= k
 exact Option.some.inj ((h (n+m) (by omega)).symm.trans (k (n+m) (by omega)))
def w8 (L:List Nat):ByteArray:= ⟨(L.map UInt8.ofNat).toArray⟩
theorem w8_list (L:List Nat):(w8 L).data.toList=L.map UInt8.ofNat:= rfl
theorem w8_size (L:List Nat):(w8 L).size=L.length:= by simp [w8,ByteArray.size]
theorem w8_cons (c:Nat) (L:List Nat):w8 [c]++w8 L=w8 (c::L):= by
 apply ByteArray.ext
 rw [ByteArray.data_append]
 simp [w8]
theorem w8_one (n:Nat):strOfNums [wrap64 (97+Int.tmod (n:Int) 26) % 256]=w8 [97+n % 26]:= by
 have e:(wrap64 (97+Int.tmod (n:Int) 26) % 256).toNat=97+n % 26:= by
  rw [Int.tmod_eq_emod_of_nonneg (by omega)]
  unfold wrap64
  omega
 unfold strOfNums w8
 simp only [List.map_cons,List.map_nil,e]
def frM (a:Nat):List Nat:= if a<26 then [97+a % 26] else if a<676 then [97+a / 26 % 26,97+a % 26] else [97+a / 26 / 26 % 26,97+a / 26 % 26,97+a % 26]
theorem fr_end (L:List Nat) (hl:L.length<=5):Ev (fun k=>impl_FreshName.l0 k ((0:Nat):Int) (w8 L)) (w8 (122::113::L)):= by
 have c:¬ ((0:Nat):Int) > 0:= by omega
 have hs:2+(w8 L).size<=9223372036854775807:= by rw [w8_size];omega
 apply ev_step
 simp only [impl_FreshName.l0,if_neg c,if_pos hs]
 refine ev_eq (ev_const _) ?_
 rw [<- w8_cons 122,<- w8_cons 113,<- ByteArray.append_assoc]
 rfl
theorem fr_step (n:Nat) (L:List Nat) (hn:0<n) (hb:n<=9999) (hl:L.length<=5) {r:ByteArray} (h:Ev (fun k=>impl_FreshName.l0 k ((n / 26:Nat):Int) (w8 ((97+n % 26)::L))) r):Ev (fun k=>impl_FreshName.l0 k (n:Int) (w8 L)) r:= by
 have c:(n:Int) > 0:= by omega
 have hs:(w8 [97+n % 26]).size+(w8 L).size<=9223372036854775807:= by rw [w8_size,w8_size];simp;omega
 have e:wrap64 (Int.tdiv (n:Int) 26)=((n / 26:Nat):Int):= by
  rw [Int.tdiv_eq_ediv_of_nonneg (by omega)];unfold wrap64;omega
 apply ev_step
 simp only [impl_FreshName.l0,if_pos c,w8_one,e,if_pos hs,w8_cons,Option.bind_some]
 exact h
theorem fresh_is (a:Nat) (h:a<=9999):freshN (a:Int)=w8 (122::113::frM a):= by
 refine ev_uniq (impl_fresh (a:Int)) ?_
 unfold impl_FreshName.f
 have c:0<=(a:Int):= by omega
 have c2:(a:Int)<=9999:= by omega
 have e:wrap64 (Int.tdiv (a:Int) 26)=((a / 26:Nat):Int):= by
  rw [Int.tdiv_eq_ediv_of_nonneg (by omega)];unfold wrap64;omega
 simp only [in_same,in_some,Option.bind_some,decide_eq_true (show (0:Int)<=a/\(a:Int)<=9999 from ⟨c,c2⟩),if_true,w8_one,e]
 unfold frM
 by_cases h1:a<26
 ·rw [if_pos h1,show a / 26=0 by omega]
  exact fr_end _ (by simp)
 ·rw [if_neg h1]
  refine fr_step _ _ (by omega) (by omega) (by simp) ?_
  by_cases h2:a<676
  ·rw [if_pos h2,show a / 26 / 26=0 by omega]
   exact fr_end _ (by simp)
  ·rw [if_neg h2]
   refine fr_step _ _ (by omega) (by omega) (by simp) ?_
   rw [show a / 26 / 26 / 26=0 by omega]
   exact fr_end _ (by simp)
theorem fr_in (a:Nat):(∀ x∈frM a,97<=x/\x<=122)/\1<=(frM a).length/\(frM a).length<=3:= by
 unfold frM
 repeat' split
 all_goals (refine ⟨fun x hx=>?_,by simp,by simp⟩;simp only [List.mem_cons,List.not_mem_nil,or_false] at hx;omega)
theorem w8_val (L:List Nat) (h:∀ x∈L,x<=255):(w8 L).data.toList.map UInt8.toNat=L:= by
 rw [w8_list,List.map_map]
 induction L with
 | nil=>rfl
 | cons x L ih =>
  rw [List.map_cons,ih (fun y hy=>h y (List.mem_cons_of_mem _ hy))]
  have:= h x List.mem_cons_self
  have e:(UInt8.toNat ∘ UInt8.ofNat) x=x:= by
   show (UInt8.ofNat x).toNat=x
   rw [UInt8.toNat_ofNat']
   exact Nat.mod_eq_of_lt (by omega)
  rw [e]
theorem fr_le (a:Nat):∀ x∈122::113::frM a,x<=255:= by
 intro x hx
 rcases List.mem_cons.1 hx with rfl|hx
 ·omega
 rcases List.mem_cons.1 hx with rfl|hx
 ·omega
 ·have:= (fr_in a).1 x hx
  omega
theorem fresh_inj (a b:Nat) (ha:a<=9999) (hb:b<=9999) (h:(freshN (a:Int)).toList=(freshN (b:Int)).toList):a=b:= by
 rw [fresh_is a ha,fresh_is b hb,ByteArray.toList_eq,ByteArray.toList_eq] at h
 have h2:= congrArg (List.map UInt8.toNat) h
 rw [w8_val _ (fr_le a),w8_val _ (fr_le b)] at h2
 injection h2 with _ h2
 injection h2 with _ h2
 unfold frM at h2
 repeat' split at h2
 all_goals (simp only [List.cons.injEq,reduceCtorEq,and_true,and_false,List.cons_ne_nil,List.nil_eq] at h2)
 all_goals omega
theorem bt_w8 (L:List Nat) (i:Nat) (hi:i<L.length) (h:L[i]<=255):bt (w8 L) (i:Int)=(L[i]:Int):= by
 unfold bt
 have hs:(i:Int).toNat<(w8 L).size:= by rw [w8_size];omega
 rw [dif_pos hs]
 have e:((w8 L)[(i:Int).toNat]'hs).toNat=L[i]:= by
  show ((L.map UInt8.ofNat)[i]'(by rw [List.length_map];exact hi)).toNat=L[i]
  rw [List.getElem_map,UInt8.toNat_ofNat']
  exact Nat.mod_eq_of_lt (by omega)
 rw [e]
theorem fresh_word (a:Nat) (ha:a<=9999):wordM (freshN (a:Int))=true:= by
 have hf:= fr_in a
 rw [fresh_is a ha]
 have hall:∀ x∈122::113::frM a,97<=x/\x<=122:= by
  intro x hx
  rcases List.mem_cons.1 hx with rfl|hx
  ·omega
  rcases List.mem_cons.1 hx with rfl|hx
  ·omega
  ·exact hf.1 x hx
 unfold wordM
 rw [w8_size,Bool.and_eq_true]
 refine ⟨List.all_eq_true.2 fun i hi=>?_,decide_eq_true (by simp only [List.length_cons];omega)⟩
 have hi':i<(122::113::frM a).length:= by
  have:= List.mem_range'.1 hi
  omega
 have:= hall _ (List.getElem_mem hi')
 rw [bt_w8 _ i hi' (by omega),decide_eq_true (show (97:Int)<=_ by omega),decide_eq_true (show ((122::113::frM a)[i]:Int)<=122 by omega)]
 rfl
theorem fresh_nokey (a:Nat) (ha:a<=9999):isKeyM (freshN (a:Int))=false:= by
 rw [fresh_is a ha]
 unfold isKeyM
 rw [List.any_eq_false]
 intro x hx e
 have e:= of_decide_eq_true e
 rw [ByteArray.toList_eq,ByteArray.toList_eq,w8_list] at e
 have k:∀ y∈keyList,y.data.toList.head?≠some 122:= by decide
 exact k x hx (by rw [e];rfl)
theorem fresh_drawn (a:Nat) (ha:a<=9999) {s:ByteArray} (hs:drawnB s=true) (h:s.toList=(freshN (a:Int)).toList):False:= by
 rw [fresh_is a ha,ByteArray.toList_eq,ByteArray.toList_eq,w8_list,List.map_cons,List.map_cons] at h
 unfold drawnB at hs
 have e:s.size=s.data.toList.length:= rfl
 simp only [Bool.or_eq_true,decide_eq_true_eq,beq_iff_eq] at hs
 rcases hs with hs|hs|hs
 ·rw [e,h] at hs
  simp at hs
 ·rw [hs] at h
  injection h with h
  exact absurd h (by decide)
 ·rw [hs] at h
  injection h with h
  exact absurd h (by decide)
theorem drawn_small {s:ByteArray} (hs:drawnB s=true):s.size<=9:= by
 unfold drawnB at hs
 have e:s.size=s.data.toList.length:= rfl
 simp only [Bool.or_eq_true,decide_eq_true_eq,beq_iff_eq] at hs
 rcases hs with hs|hs|hs
 ·omega
 ·rw [e,hs];decide
 ·rw [e,hs];decide
theorem never_drawn {s:ByteArray} (hs:drawnB s=true) (h:s.toList=never.toList):False:= by
 rw [ByteArray.toList_eq,ByteArray.toList_eq] at h
 unfold drawnB at hs
 have e:s.size=s.data.toList.length:= rfl
 rw [e,h] at hs
 exact absurd hs (by decide)
theorem never_name:nameM never=true:= by
 unfold nameM isKeyM
 simp only [ByteArray.toList_eq]
 decide +kernel
theorem site_in {i:Nat} {a:Int} {b:S30} (h:b∈siteM i a):b.f0=i/\a≠1/\((b.f1=0/\0<nm a)\/(b.f1=1/\1<nm a)):= by
 unfold siteM at h
 split at h
 ·cases h
 ·rename_i ha
  obtain ⟨r,hr,rfl⟩:= List.mem_map.1 h
  have hr:= List.mem_range.1 hr
  have:= nm_most a
  refine ⟨rfl,ha,?_⟩
  simp only
  omega
theorem in_site {i:Nat} {a:Int} {b:S30} (h0:b.f0=i) (ha:a≠1) (h:(b.f1=0/\0<nm a)\/(b.f1=1/\1<nm a)):b∈siteM i a:= by
 unfold siteM
 rw [if_neg ha]
 refine List.mem_map.2 ⟨b.f1.toNat,List.mem_range.2 (by omega),?_⟩
 exact bind_eq h0.symm (by simp only;omega)
theorem sites_mem:∀ (l:List S45) (i:Nat) (b:S30),b∈sitesM l i↔∃ (j:Nat) (h:j<l.length),b∈siteM (i+j) l[j].f0
 | [],i,b=>by simp [sitesM]
 | n::ns,i,b=>by
  rw [sitesM,List.mem_append,sites_mem ns (i+1) b]
  constructor
  ·rintro (h|⟨j,hj,h⟩)
   ·exact ⟨0,by simp,h⟩
   ·exact ⟨j+1,by simpa using hj,by rw [show i+(j+1)=i+1+j by omega];exact h⟩
  ·rintro ⟨j,hj,h⟩
   cases j with
   | zero=>exact Or.inl h
   | succ j=>exact Or.inr ⟨j,by simpa using hj,by rw [show i+1+j=i+(j+1) by omega];exact h⟩
theorem sites_isS {l:List S45} (ho:okM l=true) (b:S30):b∈allSites l↔isS l b:= by
 unfold allSites
 rw [if_pos ho,sites_mem]
 constructor
 ·rintro ⟨j,hj,h⟩
  obtain ⟨h0,h1,h2⟩:= site_in h
  rw [Nat.zero_add] at h0
  unfold isS
  rw [h0,rdN_get l j hj]
  exact ⟨by omega,by omega,h1,h2⟩
 ·rintro ⟨h0,h1,h2,h3⟩
  have e:((b.f0.toNat:Nat):Int)=b.f0:= by omega
  have hj:b.f0.toNat<l.length:= by omega
  rw [<- e,rdN_get l _ hj] at h2 h3
  exact ⟨b.f0.toNat,hj,in_site (by omega) h2 h3⟩
theorem sites_nodup:∀ (l:List S45) (i:Nat),(sitesM l i).Nodup
 | [],i=>by simp [sitesM]
 | n::ns,i=>by
  rw [sitesM,List.nodup_append]
  refine ⟨?_,sites_nodup ns (i+1),?_⟩
  ·unfold siteM
   split
   ·simp
   ·rcases nm_most n.f0 with h|h|h <;> rw [h] <;> simp [List.range_succ]
  ·intro a ha b hb e
   have h1:= (site_in ha).1
   have h2:= (sites_in ns (i+1) b hb).1
   rw [e] at h1
   omega
theorem canL_at {l:List S45} {free:List ByteArray} (hU:∀ k,k<=9999->usedM free k=false):∀ (bs:List S30) (k:Nat) (out:List S45),k+bs.length<=9999->(∀ b∈bs,isS l b)->bs.Nodup->out.length=l.length->∀ j:Nat,j<l.length ->
  Sh1 (rd_T45 out (j:Int)) (rd_T45 (canL l free bs k out) (j:Int))/\∀ z,(∀ (i:Nat) (h:i<bs.length),own l j z=bs[i]->nmO (rd_T45 (canL l free bs k out) (j:Int)) z=freshN ((k+i:Nat):Int))/\((∀ b∈bs,own l j z≠b)->nmO (rd_T45 (canL l free bs k out) (j:Int)) z=nmO (rd_T45 out (j:Int)) z)
 | [],k,out,_,_,_,_,j,_=>⟨⟨rfl,rfl,rfl,rfl,rfl⟩,fun z=>⟨fun i h=>absurd h (by simp),fun _=>rfl⟩⟩
 | b::bs,k,out,hk,hs,hd,ho,j,hj=>by
  have e:nextM free (fuelM k) k=k:= by
   unfold fuelM
   cases 10000 - k with
   | zero=>rfl
   | succ m =>
    rw [nextM,if_neg]
    rw [hU k (by rw [List.length_cons] at hk;omega)]
    simp
  rw [List.length_cons] at hk
  obtain ⟨hd1,hd2⟩:= List.nodup_cons.1 hd
  rw [canL,e]
  obtain ⟨s1,n1⟩:= renM_at (out:= out) (freshN (k:Int)) (hs b List.mem_cons_self) ho j hj
  obtain ⟨s2,n2⟩:= canL_at hU bs (k+1) (renM l out b.f0 b.f1 (freshN (k:Int))) (by omega) (fun c hc=>hs c (List.mem_cons_of_mem _ hc)) hd2 (by rw [renM_len];exact ho) j hj
  obtain ⟨a0,a1,a2,a3,a4⟩:= s1
  obtain ⟨b0,b1,b2,b3,b4⟩:= s2
  refine ⟨⟨b0.trans a0,b1.trans a1,b2.trans a2,b3.trans a3,b4.trans a4⟩,fun z=>⟨fun i h q=>?_,fun h=>?_⟩⟩
  ·cases i with
   | zero =>
    have q:own l j z=b:= q
    rw [(n2 z).2 (fun c hc w=>hd1 (by rw [<- q,w];exact hc)),(n1 z).1 q]
    rfl
   | succ i =>
    rw [(n2 z).1 i (by simpa using h) q]
    congr 2
    omega
  ·rw [(n2 z).2 (fun c hc=>h c (List.mem_cons_of_mem _ hc)),(n1 z).2 (h b List.mem_cons_self)]
theorem nmB_own {l x:List S45} {b:S30} (hb:isS l b):∃ (j:Nat) (z:Bool),j<l.length/\(j:Int)=b.f0/\own l j z=b/\nmB x b=nmO (rd_T45 x (j:Int)) z:= by
 obtain ⟨h0,h1,h2,h3⟩:= hb
 have e:((b.f0.toNat:Nat):Int)=b.f0:= by omega
 refine ⟨b.f0.toNat,decide (b.f1=1),by omega,e,?_,?_⟩
 ·unfold own
  rw [e,if_neg h2]
  by_cases q:b.f1=1
  ·simp only [q,decide_true,if_true]
   exact bind_eq rfl q.symm
  ·simp only [q,decide_false,Bool.false_eq_true,if_false]
   have h4:b.f1=0:= by omega
   exact bind_eq rfl h4.symm
 ·unfold nmB nmO
  rw [e]
  by_cases q:b.f1=1
  ·simp only [q,decide_true,if_true]
  ·simp only [q,decide_false,Bool.false_eq_true,if_false]
theorem free_node {l:List S45} {s:ByteArray} (h:s∈freeM l):∃ i:Nat,i<l.length/\freeAt l i/\s=(rd_T45 l (i:Int)).f5:= by
 unfold freeM at h
 split at h
 ·rw [(fold_ins (freesM l l.length 0) [] (by simp [Up])).2] at h
  rcases h with h|h
  ·have go:∀ m i,i+m=l.length->s∈freesM l m i->∃ i:Nat,i<l.length/\freeAt l i/\s=(rd_T45 l (i:Int)).f5:= by
    intro m
    induction m with
    | zero=>intro i _ h;simp [freesM] at h
    | succ m ih =>
     intro i hi h
     rw [freesM,List.mem_append] at h
     rcases h with h|h
     ·split at h
      ·rename_i q
       exact ⟨i,by omega,q,List.mem_singleton.1 h⟩
      ·cases h
     ·exact ih (i+1) (by omega) h
   exact go l.length 0 (by omega) h
  ·cases h
 ·cases h
theorem named_at {l:List S45} (hn:named l) (i:Nat) (hi:i<l.length) (z:Bool):drawnB (nmO (rd_T45 l (i:Int)) z)=true:= by
 rw [rdN_get l i hi]
 have:= hn _ (List.getElem_mem hi)
 cases z
 ·exact this.1
 ·exact this.2
theorem no_used {l:List S45} (hn:named l) (k:Nat) (hk:k<=9999):usedM (freeM l) k=false:= by
 unfold usedM
 refine decide_eq_false fun q=>?_
 rw [key_mem] at q
 obtain ⟨i,hi,_,e⟩:= free_node q
 have:= named_at hn i hi false
 exact fresh_drawn k hk this (by rw [e];rfl)
theorem starts_map:∀ (l x:List S45) (st:List Int),x.map (fun n=>(fieldsM n,kidsM n))=l.map (fun n=>(fieldsM n,kidsM n))->startsM x st=startsM l st
 | [],[],_,_=>rfl
 | [],_::_,_,h=>by simp at h
 | _::_,[],_,h=>by simp at h
 | n::l,m::x,st,h=>by
  rw [List.map_cons,List.map_cons] at h
  injection h with h1 h2
  injection h1 with h1 h3
  rw [startsM,startsM,h1,h3]
  split
  ·split
   ·exact starts_map l x _ h2
   ·rfl
  ·rfl
theorem ren_same {l:List S45} (ho:okM l=true) (hn:named l) (b:S30) (hb:isS l b) (x:List S45) (hx:x=renM l l b.f0 b.f1 never):okM x=true/\canonM x=canonM l:= by
 have at_:= fun (j:Nat) (hj:j<l.length)=>renM_at never hb rfl j hj
 rw [<- hx] at at_
 have sh:Sh l x:= ⟨by rw [hx,renM_len],fun i hi=>(at_ i hi).1⟩
 have nb:∀ c,isS l c->(c=b->nmB x c=never)/\(c≠b->nmB x c=nmB l c)/\drawnB (nmB l c)=true:= by
  intro c hc
  obtain ⟨j,z,hj,_,ow,en⟩:= nmB_own (x:= x) hc
  obtain ⟨j2,z2,hj2,_,ow2,en2⟩:= nmB_own (x:= l) hc
  have e2:nmB l c=nmO (rd_T45 l (j:Int)) z:= by
   have ej:j2=j:= by omega
   subst ej
   have ez:z2=z:= by
    cases z <;> cases z2
    ·rfl
    ·rw [<- ow] at ow2
     unfold own at ow2
     rename_i q
     have hk:= hc.2.2.1
     rw [<- q] at hk
     simp only [Bool.false_eq_true,if_false,if_true,if_neg hk] at ow2
     injection ow2 with _ w
     cases w
    ·rw [<- ow] at ow2
     unfold own at ow2
     rename_i q
     have hk:= hc.2.2.1
     rw [<- q] at hk
     simp only [Bool.false_eq_true,if_false,if_true,if_neg hk] at ow2
     injection ow2 with _ w
     cases w
    ·rfl
   rw [en2,ez]
  refine ⟨fun q=>by rw [en];exact ((at_ j hj).2 z).1 (ow.trans q),fun q=>by rw [en,e2];exact ((at_ j hj).2 z).2 (by rw [ow];exact q),by rw [e2];exact named_at hn j hj z⟩
 have f5:∀ i:Nat,i<l.length->(rd_T45 l (i:Int)).f0=1->(cB (boundM l i)=b->(rd_T45 x (i:Int)).f5=never)/\(cB (boundM l i)≠b->(rd_T45 x (i:Int)).f5=(rd_T45 l (i:Int)).f5):= by
  intro i hi hk
  have ow:own l i false=cB (boundM l i):= by unfold own;simp only [Bool.false_eq_true,if_false,if_pos hk]
  have:= (at_ i hi).2 false
  rw [ow] at this
  exact this
 have bd:∀ i:Nat,i<l.length->boundM x i=boundM l i:= by
  intro i hi
  have dr:= named_at hn i hi false
  refine bound_keep sh i hi (fun hk c hc q=>?_) (fun hk c hc q=>?_)
  ·have hs:= scope_site l l.length i c hc
   obtain ⟨n1,n2,n3⟩:= nb c hs
   obtain ⟨g1,g2⟩:= f5 i hi hk
   by_cases e:c=b
   ·by_cases w:cB (boundM l i)=b
    ·rcases bound_cases l i hk with ⟨v,_⟩|⟨d,_,_,v,u⟩
     ·rw [v] at w
      have:= hb.1
      rw [<- w] at this
      simp at this
     ·rw [e,<- w,v]
      exact u
    ·rw [n1 e,g2 w] at q
     exact absurd q.symm (fun q=>never_drawn dr q)
   ·rw [n2 e] at q
    by_cases w:cB (boundM l i)=b
    ·rw [g1 w] at q
     exact absurd q (fun q=>never_drawn n3 q)
    ·rw [g2 w] at q
     exact q
  ·have hs:= scope_site l l.length i c hc
   obtain ⟨n1,n2,n3⟩:= nb c hs
   obtain ⟨g1,g2⟩:= f5 i hi hk
   by_cases e:c=b
   ·rw [n1 e,g1 (q.trans e)]
   ·rw [n2 e,g2 (fun w=>e (q.symm.trans w))]
    rcases bound_cases l i hk with ⟨v,_⟩|⟨d,_,_,v,u⟩
    ·have h0:= hs.1
     rw [<- q,v] at h0
     simp at h0
    ·rw [<- q,v]
     exact u
 obtain ⟨_,l150,st,es,tr,er⟩:= ok_tree ho
 have km:∀ i:Nat,i<l.length->fieldsM (rd_T45 x (i:Int))=fieldsM (rd_T45 l (i:Int))/\kidsM (rd_T45 x (i:Int))=kidsM (rd_T45 l (i:Int)):= by
  intro i hi
  obtain ⟨a0,a1,a2,a3,a4⟩:= sh.one i hi
  refine ⟨?_,by unfold kidsM;rw [a0,a1,a2,a3]⟩
  have hf:= (tr.node i hi).1
  rw [<- rdN_get l i hi] at hf
  rw [hf]
  have fits:∀ (z:Bool) (q:Bool),(own l i z=b->q=true)->fitsM (nmO (rd_T45 l (i:Int)) z) q=true->fitsM (nmO (rd_T45 x (i:Int)) z) q=true:= by
   intro z q hq h
   by_cases w:own l i z=b
   ·rw [((at_ i hi).2 z).1 w,hq w]
    exact never_name
   ·rw [((at_ i hi).2 z).2 w]
    exact h
  unfold fieldsM zeroM numM at hf ⊢
  simp only [Bool.and_eq_true] at hf
  rw [a0,a1,a2,a3,a4]
  simp only [Bool.and_eq_true]
  refine ⟨hf.1,hf.2.1,fits false _ (fun w=>?_) hf.2.2.1,fits true _ (fun w=>?_) hf.2.2.2.1,hf.2.2.2.2⟩
  ·refine decide_eq_true ?_
   by_cases hk:(rd_T45 l (i:Int)).f0=1
   ·rw [hk]
    decide
   ·unfold own at w
    simp only [Bool.false_eq_true,if_false,if_neg hk] at w
    have:= hb.2.2.2
    rw [<- w] at this
    simp only at this
    omega
  ·refine decide_eq_true ?_
   unfold own at w
   simp only [if_true] at w
   have:= hb.2.2.2
   rw [<- w] at this
   simp only at this
   omega
 have hm:x.map (fun n=>(fieldsM n,kidsM n))=l.map (fun n=>(fieldsM n,kidsM n)):= by
  apply List.ext_getElem (by simp [sh.len])
  intro i h1 h2
  rw [List.length_map] at h1 h2
  have:= km i h2
  rw [rdN_get x i h1,rdN_get l i h2] at this
  simp only [List.getElem_map]
  rw [this.1,this.2]
 have ok:okM x=true:= by
  rw [<- ho]
  unfold okM
  rw [sh.len,starts_map l x [] hm]
 refine ⟨ok,?_⟩
 have hS:allSites x=allSites l:= by
  have go:∀ (l x:List S45) (i:Nat),x.map (fun n=>n.f0)=l.map (fun n=>n.f0)->sitesM x i=sitesM l i:= by
   intro l
   induction l with
   | nil=>intro x i h;cases x with
    | nil=>rfl
    | cons a x=>simp at h
   | cons n l ih =>
    intro x i h
    cases x with
    | nil=>simp at h
    | cons a x =>
     rw [List.map_cons,List.map_cons] at h
     injection h with h1 h2
     rw [sitesM,sitesM,h1,ih x _ h2]
  unfold allSites
  rw [if_pos ok,if_pos ho]
  apply go
  apply List.ext_getElem (by simp [sh.len])
  intro i h1 h2
  rw [List.length_map] at h1 h2
  have:= (sh.one i h2).1
  rw [rdN_get x i h1,rdN_get l i h2] at this
  simpa using this
 have hF:freeM x=freeM l:= by
  have go:∀ m i,i+m=l.length->freesM x m i=freesM l m i:= by
   intro m
   induction m with
   | zero=>intro i _;rfl
   | succ m ih =>
    intro i hi
    rw [freesM,freesM,ih (i+1) (by omega)]
    congr 1
    have a0:= (sh.one i (by omega)).1
    have eb:= bd i (by omega)
    by_cases q:freeAt l i
    ·have q':freeAt x i:= ⟨a0.trans q.1,by rw [eb];exact q.2⟩
     rw [if_pos q,if_pos q',(f5 i (by omega) q.1).2]
     intro w
     have h0:= hb.1
     rw [<- w] at h0
     have:= q.2
     unfold cB at h0
     simp only at h0
     omega
    ·have q':¬ freeAt x i:= fun h=>q ⟨a0.symm.trans h.1,by rw [<- eb];exact h.2⟩
     rw [if_neg q,if_neg q']
  unfold freeM
  rw [if_pos ok,if_pos ho,sh.len,go l.length 0 (by omega)]
 have hR:∀ (c:S30) (s:ByteArray) (out:List S45),renM x out c.f0 c.f1 s=renM l out c.f0 c.f1 s:= by
  intro c s out
  have go:∀ m i out,i+m=l.length->renU x c.f0 c.f1 s m i out=renU l c.f0 c.f1 s m i out:= by
   intro m
   induction m with
   | zero=>intro i out _;rfl
   | succ m ih =>
    intro i out hi
    have eh:hitM x c.f0 c.f1 i=hitM l c.f0 c.f1 i:= by unfold hitM;rw [bd i (by omega)]
    rw [renU,renU,eh,ih (i+1) _ (by omega)]
  unfold renM
  rw [sh.len,go _ _ _ (by omega)]
 have hC:∀ (free:List ByteArray) (bs:List S30) (k:Nat) (out:List S45),canL x free bs k out=canL l free bs k out:= by
  intro free bs
  induction bs with
  | nil=>intro k out;rfl
  | cons c bs ih=>intro k out;rw [canL,canL,hR,ih]
 unfold canonM
 rw [if_pos ok,if_pos ho,hS,hF,hC]
 have hl:= all_len l
 have c1:= canL_at (l:= l) (no_used hn) (allSites l) 0 x (by omega) (fun c hc=>(sites_isS ho c).1 hc) (by unfold allSites;rw [if_pos ho];exact sites_nodup l 0) sh.len
 have c2:= canL_at (l:= l) (no_used hn) (allSites l) 0 l (by omega) (fun c hc=>(sites_isS ho c).1 hc) (by unfold allSites;rw [if_pos ho];exact sites_nodup l 0) rfl
 refine list_eq (by rw [canL_len,canL_len,sh.len]) fun i hi=>?_
 rw [canL_len] at hi
 obtain ⟨⟨a0,a1,a2,a3,a4⟩,p⟩:= c1 i hi
 obtain ⟨⟨b0,b1,b2,b3,b4⟩,q⟩:= c2 i hi
 obtain ⟨d0,d1,d2,d3,d4⟩:= sh.one i hi
 have key:∀ z,nmO (rd_T45 (canL l (freeM l) (allSites l) 0 x) (i:Int)) z=nmO (rd_T45 (canL l (freeM l) (allSites l) 0 l) (i:Int)) z:= by
  intro z
  by_cases w:own l i z∈allSites l
  ·obtain ⟨k,hk,e⟩:= List.getElem_of_mem w
   rw [(p z).1 k hk e.symm,(q z).1 k hk e.symm]
  ·rw [(p z).2 (fun c hc e=>w (e ▸ hc)),(q z).2 (fun c hc e=>w (e ▸ hc))]
   refine ((at_ i hi).2 z).2 fun e=>w ?_
   rw [e]
   exact (sites_isS ho b).2 hb
 exact node_eq ⟨(a0.trans d0).trans b0.symm,(a1.trans d1).trans b1.symm,(a2.trans d2).trans b2.symm,(a3.trans d3).trans b3.symm,(a4.trans d4).trans b4.symm⟩ (key false) (key true)
theorem find_impl (l:List S45) (name:ByteArray) (b0 b1:Int) (S:List S30) (hS:S.length<=300) (R:List S45 × Bool) (h:Ev (fun k=>(impl_isName.f k name).bind fun t608=>(impl_RenameOne.j1 k l name (!t608) b0 b1)) R) (d:Nat):∀ (i:Nat) (t:Bool),i+d=S.length->(t || (S.drop i).any (hitB b0 b1))=true ->
  Ev (fun k=>impl_RenameOne.l0 k l name t S (S.length:Int) (i:Int) b0 b1) R:= by
 induction d with
 | zero =>
  intro i t hi ht
  have cn:¬ (i:Int)<(S.length:Int):= by omega
  rw [List.drop_of_length_le (by omega)] at ht
  simp only [List.any_nil,Bool.or_false] at ht
  apply ev_step
  simp only [impl_RenameOne.l0,if_neg cn,ht,if_true]
  exact h
 | succ d ih =>
  intro i t hi ht
  have hil:i<S.length:= by omega
  have cn:(i:Int)<(S.length:Int):= by omega
  have c0:0<=(i:Int):= Int.natCast_nonneg i
  rw [List.drop_eq_getElem_cons hil,List.any_cons] at ht
  cases t
  ·rw [Bool.false_or] at ht
   apply ev_step
   simp only [impl_RenameOne.l0,if_pos cn,Bool.false_eq_true,if_false,if_pos c0,rdB_get S i hil,wrap_next i (by omega)]
   exact ih (i+1) _ (by omega) ht
  ·apply ev_step
   simp only [impl_RenameOne.l0,if_pos cn,if_true,if_pos c0,wrap_next i (by omega)]
   exact ih (i+1) true (by omega) rfl
theorem same_refl (a:List S45) (hn:a.length<=1048576):Ev (fun k=>spec_SameNodes.f k a a) true/\Ev (fun k=>impl_SameNodes.f k a a) true:= by
 have go:∀ m i:Nat,i+m=a.length->Ev (fun k=>spec_SameNodes.l0 k a a i) true/\Ev (fun k=>impl_SameNodes.l0 k a a (a.length:Int) i) true:= by
  intro m
  induction m with
  | zero =>
   intro i hi
   have c:¬ (i:Int)<(a.length:Int):= by omega
   refine ⟨ev_step ?_,ev_step ?_⟩
   ·simp only [spec_SameNodes.l0,if_neg c];exact ev_const _
   ·simp only [impl_SameNodes.l0,if_neg c];exact ev_const _
  | succ m ih =>
   intro i hi
   have c:(i:Int)<(a.length:Int):= by omega
   have c0:0<=(i:Int):= by omega
   obtain ⟨h1,h2⟩:= ih (i+1) (by omega)
   refine ⟨ev_step ?_,ev_step ?_⟩
   ·simp only [spec_SameNodes.l0,if_pos c,if_pos c0,wrap_next i (by omega),bne_self_eq_false,Bool.false_eq_true,Bool.or_self,if_false,beq_self_eq_true,Bool.and_self,Bool.not_true]
    exact h1
   ·simp only [impl_SameNodes.l0,if_pos c,if_pos c0,wrap_next i (by omega),bne_self_eq_false,Bool.false_eq_true,Bool.or_self,if_false,beq_self_eq_true,Bool.and_self,Bool.not_true]
    exact h2
 unfold spec_SameNodes.f impl_SameNodes.f
 simp only [if_true]
 exact go a.length 0 (by omega)
theorem ren_one {l:List S45} (ho:okM l=true) (hn:named l) (h150:l.length<=150) (hs:∀ y∈l,small y) (b:S30) (hb:isS l b):∃ x,Ev (fun k=>impl_RenameOne.f k l b.f0 b.f1 never) (x,true)/\Ev (fun k=>spec_AlphaSame.f k x l) true:= by
 refine ⟨renM l l b.f0 b.f1 never,?_,?_⟩ <;> obtain ⟨ox,cx⟩:= ren_same ho hn b hb _ rfl
 all_goals
  have xl:= renM_len l l b.f0 b.f1 never
  have xs:∀ y∈renM l l b.f0 b.f1 never,small y:= renM_small hs b.f0 b.f1 hb.1 (by decide)
  obtain ⟨s1,s2⟩:= same_refl (canonM l) (by have:= canon_len l;omega)
 ·have a2:Ev (fun k=>impl_AlphaSame.f k l (renM l l b.f0 b.f1 never)) true:= by
   have ja:= impl_ok l (by omega) hs
   have jb:= impl_ok _ (by omega) xs
   rw [ho] at ja
   rw [ox] at jb
   unfold impl_AlphaSame.f
   refine ev_bind ja ?_
   simp only [if_true]
   refine ev_bind jb ?_
   simp only [if_true]
   have cb:= impl_canon _ (by omega) xs
   rw [cx] at cb
   exact ev_bind (impl_canon l (by omega) hs) (ev_bind cb (ev_bind s2 (ev_const _)))
  have cp:impl_copyNodes.f l=some l:= by
   have c1:([]:List S45).length+l.length<1954687338268:= by simp;omega
   unfold impl_copyNodes.f
   rw [if_pos c1,List.nil_append]
  obtain ⟨_,l150,st,_,tr,_⟩:= ok_tree ho
  have n2:= impl_name never (by decide)
  rw [never_name] at n2
  unfold impl_RenameOne.f
  refine ev_bind (impl_sites l (by omega) hs) (find_impl l never b.f0 b.f1 (allSites l) (all_len l) _ (ev_bind n2 (ev_step ?_)) (allSites l).length 0 false (by omega) ?_)
  ·simp only [impl_RenameOne.j1,Bool.not_true,Bool.false_eq_true,if_false,cp,Option.bind_some]
   refine ev_bind (impl_bounds tr l150) (ev_bind (impl_ren l l150 b.f0 b.f1 hb.1 hb.2.1 never l rfl) (ev_bind a2 ?_))
   simp only [if_true]
   exact ev_const _
  ·rw [List.drop_zero,Bool.false_or]
   refine List.any_eq_true.2 ⟨b,(sites_isS ho b).2 hb,?_⟩
   unfold hitB
   simp
 ·have ja:= spec_ok _ (by omega) xs
  have jb:= spec_ok l (by omega) hs
  rw [ho] at jb
  rw [ox] at ja
  unfold spec_AlphaSame.f
  refine ev_bind ja ?_
  simp only [if_true]
  refine ev_bind jb ?_
  simp only [if_true]
  have cb:= spec_canon _ (by omega) xs
  rw [cx] at cb
  exact ev_bind cb (ev_bind (spec_canon l (by omega) hs) (ev_bind s1 (ev_const _)))
theorem has_law (ns:List ByteArray) (s:ByteArray) (hn:ns.length<=100000) (h:∀ x∈ns,x.toList≠s.toList):Ev (fun k=>laws_hasText.f k ns s) false:= by
 have go:∀ m i:Nat,i+m=ns.length->Ev (fun k=>laws_hasText.l0 k ns s i) false:= by
  intro m
  induction m with
  | zero =>
   intro i hi
   have d:¬ (i:Int)<(ns.length:Int):= by omega
   apply ev_step
   simp only [laws_hasText.l0,if_neg d]
   exact ev_const _
  | succ m ih =>
   intro i hi
   have d:(i:Int)<(ns.length:Int):= by omega
   have d0:0<=(i:Int):= by omega
   have hi':i<ns.length:= by omega
   apply ev_step
   simp only [laws_hasText.l0,if_pos d,if_pos d0,rdStr_get ns i hi',if_neg (h _ (List.getElem_mem hi')),wrap_next i (by omega)]
   exact ih (i+1) (by omega)
 exact go ns.length 0 (by omega)
theorem ev_one {α:Type} {g:Nat->Option α} {r:α} (h:Ev g r):∃ k,g k=some r:= by
 obtain ⟨n,h⟩:= h
 exact ⟨n,h n (Nat.le_refl _)⟩
theorem ev_both {α β:Type} {g:Nat->Option α} {f:Nat->Option β} {r:α} {q:β} (h:Ev g r) (k:Ev f q):∃ n,∀ m,n<=m->g m=some r/\f m=some q:= by
 obtain ⟨n,h⟩:= h
 obtain ⟨m,k⟩:= k
 exact ⟨n+m,fun j hj=>⟨h j (by omega),k j (by omega)⟩⟩
theorem names_law {l:List S45} (ho:okM l=true) (hn:named l) (i:Nat) (hi:i<(allSites l).length):nmAt (canonM l) (allSites l)[i]=freshN (i:Int)/\∀ y∈freeM (canonM l),y.toList≠(freshN (i:Int)).toList:= by
 have hl:= all_len l
 have ec:canonM l=canL l (freeM l) (allSites l) 0 l:= by unfold canonM;rw [if_pos ho]
 have c2:= canL_at (l:= l) (no_used hn) (allSites l) 0 l (by omega) (fun c hc=>(sites_isS ho c).1 hc) (by unfold allSites;rw [if_pos ho];exact sites_nodup l 0) rfl
 rw [<- ec] at c2
 have at_:∀ (k:Nat) (hk:k<(allSites l).length),nmB (canonM l) (allSites l)[k]=freshN (k:Int):= by
  intro k hk
  obtain ⟨j,z,hj,_,ow,en⟩:= nmB_own (x:= canonM l) ((sites_isS ho _).1 (List.getElem_mem hk))
  rw [en,((c2 j hj).2 z).1 k hk ow,Nat.zero_add]
 refine ⟨at_ i hi,fun y hy e=>?_⟩
 obtain ⟨j,hj,⟨f1,f2⟩,ey⟩:= free_node hy
 have hcl:(canonM l).length=l.length:= by rw [ec,canL_len]
 rw [hcl] at hj
 obtain ⟨sh,nm⟩:= c2 j hj
 have f1':(rd_T45 l (j:Int)).f0=1:= sh.1.symm.trans f1
 have ow:own l j false=cB (boundM l j):= by unfold own;simp only [Bool.false_eq_true,if_false,if_pos f1']
 have shl:Sh l (canonM l):= ⟨hcl,fun i hi=>(c2 i hi).1⟩
 by_cases w:own l j false∈allSites l
 ·obtain ⟨k,hk,ek⟩:= List.getElem_of_mem w
  have e5:= (nm false).1 k hk ek.symm
  rw [Nat.zero_add] at e5
  have hsc:(allSites l)[k]∈scopeM l l.length j:= by
   rw [ek,ow]
   rcases bound_cases l j f1' with ⟨v,_⟩|⟨d,hd,_,v,_⟩
   ·have:= ((sites_isS ho _).1 w).1
    rw [ow,v] at this
    simp at this
   ·rw [v];exact hd
  rcases bound_cases (canonM l) j f1 with ⟨_,v⟩|⟨d,hd,_,v,_⟩
  ·rw [hcl,shl.scope] at v
   have:= List.find?_eq_none.1 v _ hsc
   apply this
   refine decide_eq_true ?_
   rw [at_ k hk,<- e5]
   rfl
  ·have:= (scope_site _ _ _ d hd).1
   rw [<- v] at this
   unfold cB at this
   simp only at this
   omega
 ·have e5:= (nm false).2 (fun b hb e=>w (e ▸ hb))
  have dr:= named_at hn j hj false
  refine fresh_drawn i (by omega) dr ?_
  rw [<- e5,<- e,ey]
  rfl
theorem FnFresh:Pure:= by
 refine ⟨fun l hn hl=>?_,fun a a0 a1=>?_⟩
 ·have hs:∀ y∈l,small y:= fun y hy=>by
   have:= hn y hy
   exact ⟨by have:= drawn_small this.1;omega,by have:= drawn_small this.2;omega⟩
  have hl1:l.length<=1048576:= by simp only [Nat.reducePow] at hl;omega
  obtain ⟨k,hk⟩:= ev_one (spec_ok l hl1 hs)
  refine ⟨k,okM l,hk,fun ho=>⟨allSites l,canonM l,freeM (canonM l),?_⟩⟩
  obtain ⟨_,l150,_⟩:= ok_tree ho
  have hcl:(canonM l).length=l.length:= by unfold canonM;rw [if_pos ho,canL_len]
  have hS:= all_len l
  have c2:= canL_at (l:= l) (no_used hn) (allSites l) 0 l (by omega) (fun c hc=>(sites_isS ho c).1 hc) (by unfold allSites;rw [if_pos ho];exact sites_nodup l 0) rfl
  have ec:canonM l=canL l (freeM l) (allSites l) 0 l:= by unfold canonM;rw [if_pos ho]
  rw [<- ec] at c2
  have cs:∀ y∈canonM l,small y:= by
   intro y hy
   obtain ⟨j,hj,rfl⟩:= List.getElem_of_mem hy
   have hj2:j<l.length:= by omega
   have sz:∀ z,(nmO (canonM l)[j] z).size<=1048576:= by
    intro z
    have q:= (c2 j hj2).2 z
    rw [rdN_get _ j hj] at q
    by_cases w:own l j z∈allSites l
    ·obtain ⟨k,hk,ek⟩:= List.getElem_of_mem w
     rw [q.1 k hk ek.symm,fresh_is _ (by omega),w8_size]
     have:= fr_in (0+k)
     simp only [List.length_cons]
     omega
    ·rw [q.2 (fun b hb e=>w (e ▸ hb))]
     have:= drawn_small (named_at hn j hj2 z)
     omega
   exact ⟨sz false,sz true⟩
  refine ⟨ev_one (spec_sites l hl1 hs),by omega,fun i hi=>?_,ev_one (impl_canon l hl1 hs),hcl,ev_one (impl_free _ (by omega) cs),fun i hi=>?_⟩
  ·rw [rdB_get _ i hi]
   obtain ⟨x,e1,e2⟩:= ren_one ho hn l150 hs _ ((sites_isS ho _).1 (List.getElem_mem hi))
   obtain ⟨n,h⟩:= ev_both e1 e2
   exact ⟨n,x,(h n (Nat.le_refl _)).1,(h n (Nat.le_refl _)).2⟩
  ·have is:= (sites_isS ho _).1 (List.getElem_mem hi)
   obtain ⟨q1,q2⟩:= names_law ho hn i hi
   rw [rdB_get _ i hi,hcl,q1]
   refine ⟨is.1,is.2.1,?_⟩
   have ens:namesTo (canonM l) (allSites l) i=(List.range i).map fun (j:Nat)=>freshN (j:Int):= by
    unfold namesTo
    refine List.map_congr_left fun j hj=>?_
    have hj:= List.mem_range.1 hj
    rw [rdB_get _ j (by omega)]
    exact (names_law ho hn j (by omega)).1
   have h1:= has_law (namesTo (canonM l) (allSites l) i) (freshN (i:Int)) (by rw [ens];simp;omega) (by
    rw [ens]
    intro y hy e
    obtain ⟨j,hj,rfl⟩:= List.mem_map.1 hy
    have hj:= List.mem_range.1 hj
    have:= fresh_inj j i (by omega) (by omega) e
    omega)
   have h2:= has_law (freeM (canonM l)) (freshN (i:Int)) (by have:= free_most (canonM l);omega) q2
   have h3:= impl_word (freshN (i:Int)) (by rw [fresh_is i (by omega),w8_size];have:= fr_in i;simp only [List.length_cons];omega)
   rw [fresh_word i (by omega)] at h3
   obtain ⟨n1,g1⟩:= h1
   obtain ⟨n2,g2⟩:= h2
   obtain ⟨n3,g3⟩:= h3
   exact ⟨n1+n2+n3,g1 _ (by omega),g2 _ (by omega),g3 _ (by omega)⟩
 ·obtain ⟨a,rfl⟩:∃ n:Nat,a=(n:Int):= ⟨a.toNat,by omega⟩
  have ea:(a:Int)*30=((a*30:Nat):Int):= by omega
  obtain ⟨n1,g1⟩:= impl_fresh ((a*30:Nat):Int)
  have h3:= impl_word (freshN ((a*30:Nat):Int)) (by rw [fresh_is _ (by omega),w8_size];have:= fr_in (a*30);simp only [List.length_cons];omega)
  rw [fresh_word _ (by omega)] at h3
  have h4:= impl_isKey (freshN ((a*30:Nat):Int))
  rw [fresh_nokey _ (by omega)] at h4
  obtain ⟨n2,g2⟩:= h3
  obtain ⟨n3,g3⟩:= h4
  rw [ea]
  refine ⟨n1+n2+n3,freshN ((a*30:Nat):Int),g1 _ (by omega),g2 _ (by omega),g3 _ (by omega),fun b b0 b1=>?_⟩
  obtain ⟨b,rfl⟩:∃ n:Nat,b=(n:Int):= ⟨b.toNat,by omega⟩
  have eb:((a*30:Nat):Int)+1+(b:Int)=((a*30+1+b:Nat):Int):= by omega
  rw [eb]
  obtain ⟨m,g⟩:= impl_fresh ((a*30+1+b:Nat):Int)
  refine ⟨m,_,g m (Nat.le_refl _),fun e=>?_⟩
  have:= fresh_inj _ _ (by omega) (by omega) e
  omega
end Go.Proofs.YthmpgocaoccnaaaGreatDoor.Pure
set_option linter.unusedVariables false
set_option linter.unusedSimpArgs false
namespace Go.Proofs.YthmpgocaoccnaaaGreatDoor.fnFresh
open Go.ChangeShapes Go.WideShapes Go.ChangeAt Go.RowKit
open Go.ChangeMaps (open_string shut_string)
open Go.Proofs.YthmpgocaoccnaaaGreatDoor.SayFnFresh Go.Proofs.YthmpgocaoccnaaaGreatDoor.PFnFresh Go.Proofs.YthmpgocaoccnaaaGreatDoorW.PrintWords Go.Proofs.YthmpgocaoccnaaaGreatDoorW.Opens Go.Proofs.YthmpgocaoccnaaaGreatDoor
theorem own:ownKnob Tryz.prog.godebug=none:=by kernel_rfl
theorem laidOut:laidOutB Tryz.prog=true:=by kernel_rfl
set_option maxRecDepth 100000 in
theorem lifted (os:Os) (started:os.Started) (H:Type) (enc:TypeId × Value→H) :
    ReturnsInHanded {} Tryz.checked os 4 .any (fun w args=>(Rows.fnFreshSpec.pre enc Tryz.prog Tryz.f4 Rows.fnFreshRow.domain false w args∧laidMetH Tryz.prog Rows.fnFreshRow.laid w)∧sizedMet enc Tryz.prog Tryz.f4 (OpenSpec.ofChange Rows.fnFreshSpec) false w args) (Rows.fnFreshSpec.post enc Tryz.prog Tryz.f4 false true false false):=by
  refine returnsInHanded_of_change_and (C:=Tryz.checked) (X:=fun w _=>laidMetH Tryz.prog Rows.fnFreshRow.laid w) (fun _ _ _ hh h=>h.of_heap hh) own started (by kernel_rfl) Tryz.func4
    (ChangeSpec.witness_shaped (enc:=enc) (C:=Tryz.checked) (os:=os) (X:=fun w _=>laidMetH Tryz.prog Rows.fnFreshRow.laid w) false (World.laidAll Tryz.prog os Rows.fnFreshRow.laid) #[.slice none 0 0] 8 (World.laidAll_os _ _ _)
      (World.shaped_of_ZipB (by kernel_rfl) (by kernel_rfl)) (by kernel_rfl) (by kernel_rfl) (by kernel_rfl)
      (by rw [MakeChecks.laidMetH_plain _ _ _ (by kernel_rfl)];exact laidMet_laidAll _ (by kernel_rfl) (by kernel_rfl))) ?_
  intro W base args ds gs before hval0 hW _ _ hL _
  have hval:∀ (j:Nat) t v,Tryz.f4.params[j]?=some t→args[j]?=some v→Value.okWide Tryz.prog W .any base t v:=hval0
  have hW':=hW
  obtain ⟨p,q,hA0,hV,rfl,hfz,hnd⟩:=hW
  have hA:DataW.TrodAll enc Tryz.prog W 0 (fun _=>true) true Tryz.f4.params.toList args.toList ds p:=hA0
  rw [Tryz.params4] at hA hval
  obtain ⟨v0,vs0,d0,ds0,p0,q0,hargs,rfl,rfl,h0,r0⟩:=trodAll_cons hA
  obtain ⟨rfl,rfl,rfl⟩:=trodAll_nil r0
  obtain rfl:args=#[v0]:=by cases args;simp_all
  obtain ⟨rfl,rfl⟩:=trodVars_none hV
  have k0:=h0
  have lt0:∀ x∈p0,x.block<W.heap.size:=by obtain ⟨m,hm⟩:=k0;exact DataW.trod_lt m _ _ _ hm
  obtain ⟨b0,n0,m0,rfl⟩:=okWide_slice Tryz.underlying35 (hval 0 35 v0 rfl rfl)
  obtain ⟨fuel0,hf0⟩:=h0
  obtain ⟨l0,⟨A0,c0,hv0,hc0,hr0⟩,g0⟩:=(opens_slice Tryz.underlying35 (by kernel_rfl) (opens_int Tryz.underlying5 (by kernel_rfl))).2 _ _ _ _ _ _ _ _ _ hf0
  simp only [Value.cells,List.cons.injEq,Value.slice.injEq,and_true] at hv0
  obtain ⟨rfl,rfl,rfl⟩:=hv0
  clear hA0 hval0 hL
  refine (walk Pure.FnFresh _ _ l0 W hr0 hc0 g0).mono fun e W' ⟨he,bel⟩=>?_
  subst he
  exact ⟨_,rfl,_,_,_,[],_,[],hW',trodAll_mk1 (shut_bool Tryz.underlying4 _),(trodAll_cons_mk (Below.trod laidOut (by kernel_rfl) (of_decide_eq_true (by kernel_rfl)) k0 bel lt0) trodAll_mk0),rfl,bel.frame _,fun h=>by cases h⟩
theorem over:Rows.fnFreshRow.holds Tryz.pinned (OpenSpec.ofChange Rows.fnFreshSpec) :=
  OpenClaim.holds_of_wide 4 Tryz.f4 rfl rfl rfl rfl rfl rfl rfl ⟨rfl,rfl,rfl,rfl,rfl⟩ rfl rfl rfl rfl rfl (by kernel_rfl) Tryz.func4 (by kernel_rfl)
    (of_decide_eq_true (by kernel_rfl)) (by unfold Func.isWrapper;first|(rw [if_pos (by decide +kernel)];kernel_rfl)|(rw [if_neg (by decide +kernel)];exact ⟨rfl,rfl⟩))
    (fun os started H enc _=>lifted os started H enc)
theorem proved:Rows.FnFreshCardSaid :=
  Claim7.holds_tied_plain_at .later [] [.data, .pinned] true (true, "54e6ad759c07c62de7cc5a4958491200fa3d65109fb64ef42c542f6c596f58fe") false over (fun _ h => by cases h) (by kernel_rfl) (fun _ h => by cases h) fnFresh_row_tie rfl ⟨rfl, rfl⟩ (by kernel_rfl) rfl
    (fun f fn hf hfn=>by
      obtain rfl : f = 4 := Option.some.inj ((show Tryz.prog.funcNamed "loop.example/g01292/laws.FnFresh" = some 4 by kernel_rfl).symm.trans hf) |>.symm
      obtain rfl:fn=Tryz.f4:=(Option.some.inj (Tryz.func4.symm.trans hfn)).symm
      exact ⟨by kernel_rfl,fun j t ht=>by
        rw [Tryz.params4] at ht
        have hm:t∈[35]:=by simpa using Array.mem_of_getElem? ht
        have hall:([35].all fun u=>!Tryz.prog.wantsStandIn u)=true:=by kernel_rfl
        exact (show Tryz.prog.wantsStandIn t=false by simpa using List.all_eq_true.1 hall t hm)⟩)
    (by kernel_rfl)
#print axioms proved
end Go.Proofs.YthmpgocaoccnaaaGreatDoor.fnFresh
namespace Go.Proofs.YthmpgocaoccnaaaGreatDoor
/-- The row, under a short name, for the claim. -/
theorem fnFresh_holds:Rows.FnFreshCardSaid:=fnFresh.proved
end Go.Proofs.YthmpgocaoccnaaaGreatDoor
