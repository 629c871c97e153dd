/- One small law beside the print's words: a row cut with a capacity. -/
import Derived.Test.YthmpgocaoccnaaaGreatDoorVFnFreshWWords
import Derived.Test.YthmpgocaoccnaaaGreatDoorVFnFreshWLast
import Derived.Test.YthmpgocaoccnaaaGreatDoorVFnFreshWTab
import Derived.Test.YthmpgocaoccnaaaGreatDoorVFnFreshWMore
set_option linter.unusedVariables false
set_option linter.unusedSimpArgs false
namespace Go.Proofs.YthmpgocaoccnaaaGreatDoorW.PrintWords
open Go.RowKit Go.Proofs.YthmpgocaoccnaaaGreatDoorW.PrintLast Go.Proofs.YthmpgocaoccnaaaGreatDoorW.PrintMore
theorem cut_to3 {P:Program} (t e:TypeId) (kh km:IntKind) {i:TypeInfo} (ht:P.underlying t=some (.slice e)) (hi:P.info? e=some i) (A:Option Addr) (n c:Nat) (j m:Int) (h0:0≤j) (hj:j≤m) (hm:m≤n) (hc:n≤c) :
    ∀ W:World,(Instr.slice t (.slice A n c) none (some (.int kh j)) (some (.int km m))).run P W=.ok (.slice A j.toNat m.toNat) W:=by
  intro W
  have hel:P.elem t=e:=by simp [Program.elem,ht]
  have hu:P.underlying t=some (.slice (P.elem t)):=by rw [hel];exact ht
  have ha:(A.map fun x=>x.add 0)=A:=by cases A <;> simp [Addr.add]
  rw [run_slice_hm W t A n c hu kh km j m h0 hj (by omega),hel]
  simp [sizeOf,typeInfo,hi,sliced,Result.andThen,ha]
theorem gate_calleev {P:Program} {ops:Array Oper} {Q:Exit→Act→World→Prop} {o:Oper} {rest:List Oper} {a:Act} {W:World} {t:Tmp} {as:Array Operand} {ts:Array TypeId} (_ho:o.op=.call { callee:=.value (.tmp t),args:=as,argTypes:=ts }) (h:wpList P ops Q (o::rest) a W):wpList P ops Q (o::rest) a W:=h
theorem goesLv_ {P : Program} {ops : Array Oper} {Q : Exit → Act → World → Prop} {rest : List Oper} {oi : Oper} {a : Act} {w : World} (N : Option Tmp) (hd : oi.dst = N) (hg : oi.guard = none) {f : FuncId} {fn : Func} {t : Tmp} {as : Array Operand} {ts : Array TypeId} (hf : P.funcs[f]? = some fn) (hname : (fn.name == "runtime.NumGoroutine") = false) (hb : fn.body.isSome = true) (args : Array Value)
    (hop:oi.op=.call { callee:=.value (.tmp t),args:=as,argTypes:=ts }) (hargs:as.map a.eval=args) (hv:a.eval (.tmp t)=.func (.func f) #[] #[])
    (h:Calls P f args w fun e w'=>∃ v,e=.returned v∧wpList P ops Q rest (a.put N v) w'):wpList P ops Q (oi::rest) a w:=by
  refine wpList_plain hg fun K hK=>?_
  have he:=enters_ hf hname hb args w
  have hrun:(execOp a.eval oi).run P w=.ok (.enter f args) w:=by
    unfold execOp
    simp [hop,resolve,Deferred.ofValue,invoke,hv,hargs,he]
  unfold Oper.wp
  rw [hrun,Oper.upon_enter]
  refine h.mono fun e w'' hh=>?_
  obtain ⟨v,rfl,hk⟩:=hh
  subst hd
  exact hK _ _ hk
theorem goesLc_ {P : Program} {ops : Array Oper} {Q : Exit → Act → World → Prop} {rest : List Oper} {oi : Oper} {a : Act} {w : World} (N : Option Tmp) (hd : oi.dst = N) (hg : oi.guard = none) {f : FuncId} {fn : Func} {t : Tmp} {as : Array Operand} {ts : Array TypeId} (hf : P.funcs[f]? = some fn) (hname : (fn.name == "runtime.NumGoroutine") = false) (hb : fn.body.isSome = true) (args cap all : Array Value) (hall : args ++ cap = all)
    (hop:oi.op=.call { callee:=.value (.tmp t),args:=as,argTypes:=ts }) (hargs:as.map a.eval=args) (hv:a.eval (.tmp t)=.func (.func f) #[] cap)
    (h:Calls P f all w fun e w'=>∃ v,e=.returned v∧wpList P ops Q rest (a.put N v) w'):wpList P ops Q (oi::rest) a w:=by
  refine wpList_plain hg fun K hK=>?_
  have he:=enters_ hf hname hb all w
  have hrun:(execOp a.eval oi).run P w=.ok (.enter f all) w:=by
    unfold execOp
    simp [hop,resolve,Deferred.ofValue,invoke,hv,hargs,hall,he]
  unfold Oper.wp
  rw [hrun,Oper.upon_enter]
  refine h.mono fun e w'' hh=>?_
  obtain ⟨v,rfl,hk⟩:=hh
  subst hd
  exact hK _ _ hk
theorem kN {w:World} {g:Nat} {o:Obj} (h:w.heap[g]?=some o) (n:Nat):(w.drewN n).heap[g]?=some o:=blk_drewN h n
theorem kD {w:World} {g:Nat} {o:Obj} (h:w.heap[g]?=some o):w.drew.heap[g]?=some o:=blk_drew h
theorem kA {w:World} {g:Nat} {o:Obj} (h:w.heap[g]?=some o) (q:Obj):(w.alloc q).heap[g]?=some o:=blk_alloc h q
section
variable {α:Type} {d:Kd α} {e:Nat} {w:World} {base:Nat} {ok:Nat→Prop} {v:Value} {xs:List α}
theorem rA (h:d.R e w base ok v xs) (o:Obj):d.R e (w.alloc o) base ok v xs:=Kd.R_alloc h o
theorem rN (h:d.R e w base ok v xs) (m:Nat):d.R e (w.drewN m) base ok v xs:=Kd.R_drewN h m
theorem rD (h:d.R e w base ok v xs):d.R e w.drew base ok v xs:=Kd.R_drew h
end
theorem az {P:Prop} (h:P:=by first|(with_reducible assumption)|assumption):P:=h
theorem bi {α β:Type} {x:Option α} {f:α→Option β} {b:β} (h:x.bind f=some b):∃ a,x=some a∧f a=some b:=Option.bind_eq_some_iff.mp h
theorem bz0 {P Q:Prop} (h:P) (g:P→Q:=by intro HB;repeat (first|(with_reducible first|exact HB|apply below_alloc|apply pw_below_drewN|apply below_drew1)|exact HB)):Q:=g h
theorem bz1 {P Q:Prop} {E0:Prop} (h:P) (e0:E0) (g:P→E0→Q:=by intro HB G0;repeat (first|(with_reducible first|exact HB|apply below_alloc|apply pw_below_drewN|apply below_drew1|refine below_set ?_ G0)|exact HB)):Q:=g h e0
theorem bz2 {P Q:Prop} {E0:Prop} {E1:Prop} (h:P) (e0:E0) (e1:E1) (g:P→E0→E1→Q:=by intro HB G0 G1;repeat (first|(with_reducible first|exact HB|apply below_alloc|apply pw_below_drewN|apply below_drew1|refine below_set ?_ G0|refine below_set ?_ G1)|exact HB)):Q:=g h e0 e1
theorem cz {P Q:Prop} (h:P) (g:P→Q:=by intro K;repeat (first|exact K|(with_reducible refine Kd.C_alloc ?_ _)|(with_reducible refine Kd.C_drewN ?_ _)|(with_reducible refine Kd.C_drew ?_))):Q:=g h
theorem cz2 {w:World} {g:Nat} {t:TypeId} {a0 a1:Value} (h:w.heap[g]?=some (.cells #[a0,a1] t (0,0))):w.cell? ⟨g,0,none⟩=some a0∧w.cell? ⟨g,1,none⟩=some a1:=⟨(blk_cell h 0).trans rfl,(blk_cell h 1).trans rfl⟩
theorem cz7 {w:World} {g:Nat} {t:TypeId} {a0 a1 a2 a3 a4 a5 a6:Value} (h:w.heap[g]?=some (.cells #[a0,a1,a2,a3,a4,a5,a6] t (0,0))):w.cell? ⟨g,0,none⟩=some a0∧w.cell? ⟨g,1,none⟩=some a1∧w.cell? ⟨g,2,none⟩=some a2∧w.cell? ⟨g,3,none⟩=some a3∧w.cell? ⟨g,4,none⟩=some a4∧w.cell? ⟨g,5,none⟩=some a5∧w.cell? ⟨g,6,none⟩=some a6:=⟨(blk_cell h 0).trans rfl,(blk_cell h 1).trans rfl,(blk_cell h 2).trans rfl,(blk_cell h 3).trans rfl,(blk_cell h 4).trans rfl,(blk_cell h 5).trans rfl,(blk_cell h 6).trans rfl⟩
theorem dz {w w1:World} (h:Drawn0 w w1:=by repeat (first|exact Drawn0.refl _|apply Drawn0.step)):Drawn0 w w1:=h
theorem e2z {P:Prop} (h:P:=by first|rfl|(simp;done)|(simp [*];done)):P:=h
theorem ez {P:Prop} (h:P:=by first|rfl|(simp;done)|(simp [*];done)|(simp [bne];done)):P:=h
theorem fz2 {w:World} {g:Nat} {t:TypeId} {cs:Array Value} (h:w.heap[g]?=some (.cells cs t (0,0))):w.frozen? ⟨g,0,none⟩=false∧w.frozen? ⟨g,1,none⟩=false:=⟨blk_frozen h 0,blk_frozen h 1⟩
theorem fz7 {w:World} {g:Nat} {t:TypeId} {cs:Array Value} (h:w.heap[g]?=some (.cells cs t (0,0))):w.frozen? ⟨g,0,none⟩=false∧w.frozen? ⟨g,1,none⟩=false∧w.frozen? ⟨g,2,none⟩=false∧w.frozen? ⟨g,3,none⟩=false∧w.frozen? ⟨g,4,none⟩=false∧w.frozen? ⟨g,5,none⟩=false∧w.frozen? ⟨g,6,none⟩=false:=⟨blk_frozen h 0,blk_frozen h 1,blk_frozen h 2,blk_frozen h 3,blk_frozen h 4,blk_frozen h 5,blk_frozen h 6⟩
theorem gz {P:Prop} (h:P:=by first|rfl|(simp [errW_none,errW_some] <;> rfl)|(simp [*,errW_none,errW_some] <;> rfl)):P:=h
theorem hp {α:Type} {t e r:α} (h:(if true=true then t else e)=r):t=r:=h
theorem hq {α:Type} {t e r:α} (h:(if false=true then t else e)=r):e=r:=by rwa [if_neg (by decide)] at h
theorem hz {w W:World} {p:Addr} {v:Value} (h:Below w.heap.size w W) (hx:w.cell? p=some v):W.cell? p=some v:=(h.cell (World.block_lt_of_cell? w _ hx)).trans hx
theorem iz {α:Type} {P:Prop} [Decidable P] {a:Option α} {r:α} (h:(if P then a else none)=some r):P∧a=some r:=by
  by_cases c:P
  · rw [if_pos c] at h;exact ⟨c,h⟩
  · rw [if_neg c] at h;cases h
theorem kq {P Q:Prop} (h:P) (g:P→Q:=by intro K;(with_reducible repeat (first|apply kN|apply kD|apply kA));exact K):Q:=g h
theorem kz {P Q:Prop} (h:P) (g:P→Q:=by intro K;(with_reducible repeat (first|apply blk_drewN|apply blk_drew|apply blk_alloc));exact K):Q:=g h
theorem lrz {α:Type} (a:Option α):LeO a a:=LeO.refl a
theorem lnz {α:Type} (a:Option α):LeO none a:=LeO.none a
theorem liz {α:Type} {c:Prop} [Decidable c] {a b a1 b1:Option α} (h:LeO a a1) (k:LeO b b1):LeO (if c then a else b) (if c then a1 else b1):=LeO.ite h k
theorem lbz {α β:Type} {a a1:Option α} {f f1:α→Option β} (h:LeO a a1) (k:∀ x,LeO (f x) (f1 x)):LeO (a.bind f) (a1.bind f1):=LeO.bind h k
theorem lz {P:Prop} (h:P:=by (try simp only [List.map_toArray,List.map_cons,List.map_nil]);first|done|rfl|(simp only [List.length_drop,List.length_take];rfl)):P:=h
theorem nz {P Q:Prop} (h:P) (g:P→Q:=by intro hn;first|(rw [add_block];exact hn)|(show (Addr.add _ _).block≠_;rw [add_block];exact hn)|exact hn):Q:=g h
theorem oz {P:Prop} [Decidable P] (h:decide P=true:=by first|(with_reducible assumption)|assumption):P:=of_decide_eq_true h
theorem qz {α:Type} {d:Kd α} {e:Nat} {w w1:World} {base:Nat} {ok:Nat→Prop} {v:Value} {xs:List α} {P:Prop} (h:Aside0 P) (hb:Below w.heap.size w w1) (g:P→d.R e w base ok v xs:=by intro K;(with_reducible repeat (first|apply Kd.R_alloc|apply Kd.R_drewN|apply Kd.R_drew));exact K):Aside0 (d.R e w1 base ok v xs):=⟨Kd.R_below (g h.out) hb⟩
theorem rq {P Q:Prop} (h:P) (g:P→Q:=by intro K;(with_reducible repeat (first|apply rA|apply rN|apply rD));exact K):Q:=g h
theorem rz {P Q:Prop} (h:P) (g:P→Q:=by intro K;(with_reducible repeat (first|apply Kd.R_alloc|apply Kd.R_drewN|apply Kd.R_drew));exact K):Q:=g h
theorem sz1 {α:Type} (l:List α) (i:Nat) (a:α):l.toArray.setIfInBounds i a=(l.set i a).toArray:=List.setIfInBounds_toArray ..
theorem sz2 {α:Type} (l:List α) (a b:α):(a::l).set 0 b=b::l:=List.set_cons_zero ..
theorem sz3 {α:Type} (l:List α) (n:Nat) (a b:α):(a::l).set (n+1) b=a::l.set n b:=List.set_cons_succ ..
abbrev tt:Bool:=true
abbrev ff:Bool:=false
theorem vz {P:Prop} (h:P:=by first|(go_simp;done)|(go_simp;rfl)):P:=h
theorem yz {α:Type} {a b:α} {P Q:Prop} (h:a=b) (H:P) (g:a=b→P→Q:=by intro hy H;first|(rw [hy];with_reducible exact H)|(have H2_:=(Option.bind_some _ _).symm.trans H;rw [hy];with_reducible exact H2_)|(have H2_:=(Option.bind_some _ _).symm.trans H;with_reducible exact H2_)|with_reducible exact H|(rw [hy];exact H)|exact H):Q:=g h H
def mk_ (k n:Nat):Array Bool:=⟨List.replicate k true++List.replicate n false⟩
def bm_ (n x:Nat):Array Bool:=⟨(List.range n).map x.testBit⟩
theorem pv {P:Program} {ops:Array Oper} {Q:Exit→Act→World→Prop} {md:Region.Mode} {S:World→Prop} {ds:List Nat} {T:Bool × List (List Nat × List Nat)} {oi:Oper} {v:Value} {fuel:Nat} {l:Array Bool} {a a':Act} {w:World} (i:Nat) (N:Tmp) (l':Array Bool) (hT:Aside0 (rtab md ops=T)) (hi:ops[i]?=some oi) (hN:oi.dst=some N) (h:wpAnyLast P md ops Q S ds fuel l' a' w) (hc:anyT T l.toList l'.toList i=true:=by kernel_rfl) (hQ:∀ c a w,Q (.panic c) (a.put oi.dst v) w→Q (.panic c) a w:=by exact fun _ _ _ h=>h) (hd:Region.wanted oi (yielded ops a.tmps)=true:=by rfl) (hy:∀ w,(execOp a.eval oi).run P w=.ok (.value v) w:=by intro w';go_simp;with_reducible rfl) (ha:a.put (some N) v=a':=by simp only [Act.put,List.setIfInBounds_toArray,List.set_cons_zero,List.set_cons_succ,i64_w,i32_w];rfl):wpAnyLast P md ops Q S ds (fuel+1) l a w:=pure_ l' hi hN (any_of hT.out hc) hQ (Or.inl ⟨hd,hy⟩) ha h
theorem pu {P:Program} {ops:Array Oper} {Q:Exit→Act→World→Prop} {md:Region.Mode} {S:World→Prop} {ds:List Nat} {T:Bool × List (List Nat × List Nat)} {oi:Oper} {fuel:Nat} {l:Array Bool} {a a':Act} {w:World} (i:Nat) (N:Tmp) (l':Array Bool) (hT:Aside0 (rtab md ops=T)) (hi:ops[i]?=some oi) (hN:oi.dst=some N) (h:wpAnyLast P md ops Q S ds fuel l' a' w) (hc:anyT T l.toList l'.toList i=true:=by kernel_rfl) (hQ:∀ c a w,Q (.panic c) (a.put oi.dst undef) w→Q (.panic c) a w:=by exact fun _ _ _ h=>h) (hd:Region.wanted oi (yielded ops a.tmps)=false:=by rfl) (ha:a.put (some N) undef=a':=by simp only [Act.put,List.setIfInBounds_toArray,List.set_cons_zero,List.set_cons_succ,i64_w,i32_w];rfl):wpAnyLast P md ops Q S ds (fuel+1) l a w:=pure_ l' hi hN (any_of hT.out hc) hQ (Or.inr ⟨hd,rfl⟩) ha h
theorem tv2 {P:Program} {ops:Array Oper} {Q:Exit→Act→World→Prop} {md:Region.Mode} {S:World→Prop} {ds:List Nat} {T:Bool × List (List Nat × List Nat)} {oi:Oper} {v:Value} {fuel:Nat} {l:Array Bool} {a a':Act} {w:World} (i:Nat) (N:Tmp) (l':Array Bool) (hT:Aside0 (rtab md ops=T)) {B:List Nat} (hB:Aside0 (waitsOk T.2 B=true)) (hi:ops[i]?=some oi) (hN:oi.dst=some N) (hS:S w) (h:wpAnyLast P md ops Q S ds fuel l' a' w) (hc:takeW T B ds l.toList l'.toList i=true:=by kernel_rfl) (hQ:∀ c a w,Q (.panic c) (a.put oi.dst v) w→Q (.panic c) a w:=by exact fun _ _ _ h=>h) (hd:Region.wanted oi (yielded ops a.tmps)=true:=by rfl) (hy:∀ w,S w→(execOp a.eval oi).run P w=.ok (.value v) w:=by rintro w' ⟨s0,s1⟩;go_simp;with_reducible rfl) (ha:a.put (some N) v=a':=by simp only [Act.put,List.setIfInBounds_toArray,List.set_cons_zero,List.set_cons_succ,i64_w,i32_w];rfl):wpAnyLast P md ops Q S ds (fuel+1) l a w:=take_ l' hi hN (take_ofW hT.out hB.out hc) hQ (Or.inl ⟨hd,hy⟩) hS ha h
theorem tv4 {P:Program} {ops:Array Oper} {Q:Exit→Act→World→Prop} {md:Region.Mode} {S:World→Prop} {ds:List Nat} {T:Bool × List (List Nat × List Nat)} {oi:Oper} {v:Value} {fuel:Nat} {l:Array Bool} {a a':Act} {w:World} (i:Nat) (N:Tmp) (l':Array Bool) (hT:Aside0 (rtab md ops=T)) {B:List Nat} (hB:Aside0 (waitsOk T.2 B=true)) (hi:ops[i]?=some oi) (hN:oi.dst=some N) (hS:S w) (h:wpAnyLast P md ops Q S ds fuel l' a' w) (hc:takeW T B ds l.toList l'.toList i=true:=by kernel_rfl) (hQ:∀ c a w,Q (.panic c) (a.put oi.dst v) w→Q (.panic c) a w:=by exact fun _ _ _ h=>h) (hd:Region.wanted oi (yielded ops a.tmps)=true:=by rfl) (hy:∀ w,S w→(execOp a.eval oi).run P w=.ok (.value v) w:=by rintro w' ⟨s0,s1,s2,s3⟩;go_simp;with_reducible rfl) (ha:a.put (some N) v=a':=by simp only [Act.put,List.setIfInBounds_toArray,List.set_cons_zero,List.set_cons_succ,i64_w,i32_w];rfl):wpAnyLast P md ops Q S ds (fuel+1) l a w:=take_ l' hi hN (take_ofW hT.out hB.out hc) hQ (Or.inl ⟨hd,hy⟩) hS ha h
theorem tv7 {P:Program} {ops:Array Oper} {Q:Exit→Act→World→Prop} {md:Region.Mode} {S:World→Prop} {ds:List Nat} {T:Bool × List (List Nat × List Nat)} {oi:Oper} {v:Value} {fuel:Nat} {l:Array Bool} {a a':Act} {w:World} (i:Nat) (N:Tmp) (l':Array Bool) (hT:Aside0 (rtab md ops=T)) {B:List Nat} (hB:Aside0 (waitsOk T.2 B=true)) (hi:ops[i]?=some oi) (hN:oi.dst=some N) (hS:S w) (h:wpAnyLast P md ops Q S ds fuel l' a' w) (hc:takeW T B ds l.toList l'.toList i=true:=by kernel_rfl) (hQ:∀ c a w,Q (.panic c) (a.put oi.dst v) w→Q (.panic c) a w:=by exact fun _ _ _ h=>h) (hd:Region.wanted oi (yielded ops a.tmps)=true:=by rfl) (hy:∀ w,S w→(execOp a.eval oi).run P w=.ok (.value v) w:=by rintro w' ⟨s0,s1,s2,s3,s4,s5,s6⟩;go_simp;with_reducible rfl) (ha:a.put (some N) v=a':=by simp only [Act.put,List.setIfInBounds_toArray,List.set_cons_zero,List.set_cons_succ,i64_w,i32_w];rfl):wpAnyLast P md ops Q S ds (fuel+1) l a w:=take_ l' hi hN (take_ofW hT.out hB.out hc) hQ (Or.inl ⟨hd,hy⟩) hS ha h
theorem tv9 {P:Program} {ops:Array Oper} {Q:Exit→Act→World→Prop} {md:Region.Mode} {S:World→Prop} {ds:List Nat} {T:Bool × List (List Nat × List Nat)} {oi:Oper} {v:Value} {fuel:Nat} {l:Array Bool} {a a':Act} {w:World} (i:Nat) (N:Tmp) (l':Array Bool) (hT:Aside0 (rtab md ops=T)) {B:List Nat} (hB:Aside0 (waitsOk T.2 B=true)) (hi:ops[i]?=some oi) (hN:oi.dst=some N) (hS:S w) (h:wpAnyLast P md ops Q S ds fuel l' a' w) (hc:takeW T B ds l.toList l'.toList i=true:=by kernel_rfl) (hQ:∀ c a w,Q (.panic c) (a.put oi.dst v) w→Q (.panic c) a w:=by exact fun _ _ _ h=>h) (hd:Region.wanted oi (yielded ops a.tmps)=true:=by rfl) (hy:∀ w,S w→(execOp a.eval oi).run P w=.ok (.value v) w:=by rintro w' ⟨s0,s1,s2,s3,s4,s5,s6,s7,s8⟩;go_simp;with_reducible rfl) (ha:a.put (some N) v=a':=by simp only [Act.put,List.setIfInBounds_toArray,List.set_cons_zero,List.set_cons_succ,i64_w,i32_w];rfl):wpAnyLast P md ops Q S ds (fuel+1) l a w:=take_ l' hi hN (take_ofW hT.out hB.out hc) hQ (Or.inl ⟨hd,hy⟩) hS ha h
theorem am {P:Prop} (h:P):Aside0 P:=⟨h⟩
theorem kr {P:Prop} (h:P:=by kernel_rfl):P:=h
theorem kb {w w1:World} {g:Nat} {o:Obj} {P:Prop} (h:Aside0 P) (hb:Below w.heap.size w w1) (q:P→w.heap[g]?=some o:=by intro K;(with_reducible repeat (first|refine blk_drewN ?_ _|refine blk_drew ?_|refine blk_alloc ?_ _));exact K):Aside0 (w1.heap[g]?=some o):=⟨blk_below (q h.out) hb⟩
theorem bs {w W w2:World} (h:Below w.heap.size w W) (k:Below W.heap.size W w2):Aside0 (Below w.heap.size w w2):=⟨below_step h k⟩
end Go.Proofs.YthmpgocaoccnaaaGreatDoorW.PrintWords
