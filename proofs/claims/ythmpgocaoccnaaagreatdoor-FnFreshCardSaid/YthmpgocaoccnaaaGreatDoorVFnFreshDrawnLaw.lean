/- DrawnLaw: texts of this claim, in one. -/
import Derived.Test.YthmpgocaoccnaaaGreatDoorVFnFreshDrawn8
import Derived.Test.YthmpgocaoccnaaaGreatDoorVFnFreshPx12
import Derived.Test.YthmpgocaoccnaaaGreatDoorVFnFreshPx25
import Derived.Deep.Slices
import Derived.Deep.Fields
import Derived.ChangeArms
import Derived.Test.YthmpgocaoccnaaaGreatDoorVFnFreshWWords
set_option linter.unusedVariables false
set_option linter.unusedSimpArgs false
namespace Go.Proofs.YthmpgocaoccnaaaGreatDoor.PFnFresh.Dw
open Go.RowKit Go.Proofs.YthmpgocaoccnaaaGreatDoorW.PrintWords Go.Proofs.YthmpgocaoccnaaaGreatDoorW.PrintLast Go.Proofs.YthmpgocaoccnaaaGreatDoorW.PrintMore
def never:ByteArray:=⟨#[110,101,118,101,114]⟩
def nmAt (c:List S45) (b:S30):ByteArray:=if b.f1=1 then (rd_T45 c b.f0).f6 else (rd_T45 c b.f0).f5
def namesTo (c:List S45) (S:List S30) (i:Nat):List ByteArray:=(List.range i).map fun (j:Nat)=>nmAt c (rd_T30 S (j:Int))
/-- what the law asks of what a drawn program's functions answer. -/
def FreshL (l:List S45) (S:List S30) (c:List S45) (free:List ByteArray):Prop :=
  (∃ k,spec_Sites.f k l=some S)∧S.length≤1000∧(∀ i:Nat,i<S.length→∃ k x,impl_RenameOne.f k l (rd_T30 S (i:Int)).f0 (rd_T30 S (i:Int)).f1 never=some (x,true)∧spec_AlphaSame.f k x l=some true) ∧
  (∃ k,impl_Canon.f k l=some c)∧c.length=l.length∧(∃ k,impl_FreeNames.f k c=some free) ∧
  ∀ i:Nat,i<S.length→0≤(rd_T30 S (i:Int)).f0∧(rd_T30 S (i:Int)).f0<(c.length:Int)∧∃ k,laws_hasText.f k (namesTo c S i) (nmAt c (rd_T30 S (i:Int)))=some false∧laws_hasText.f k free (nmAt c (rd_T30 S (i:Int)))=some false∧impl_IsWord.f k (nmAt c (rd_T30 S (i:Int)))=some true
def FreshP:Prop:=(∀ l:List S45,named l→l.length≤4 ^ 9→∃ k ok,spec_NodesOk.f k l=some ok∧(ok=true→∃ S c free,FreshL l S c free)) ∧
  ∀ a:Int,0≤a→a≤255→∃ k s,impl_FreshName.f k (a * 30)=some s∧impl_IsWord.f k s=some true∧impl_IsKey.f k s=some false∧∀ b:Int,0≤b→b≤255→∃ k t,impl_FreshName.f k (a * 30+1+b)=some t∧s.toList≠t.toList
inductive Fw:Type
  | n (A:Option Addr) (m q:Nat) (l:List S45)
  | b (A:Option Addr) (m q:Nat) (l:List S30)
  | s (A:Option Addr) (m q:Nat) (l:List ByteArray)
  | u (A:Option Addr) (m q:Nat) (l:List Int)
def Fw.ok (w:World):Fw→Prop
  | .n A m q l=>m≤q∧Kd.C k45 w A m l
  | .b A m q l=>m≤q∧Kd.C k30 w A m l
  | .s A m q l=>m≤q∧Kd.C Kd.string w A m l
  | .u A m q l=>m≤q∧Kd.C (Kd.int .u8) w A m l
def Sw (w0 w:World) (L:List Fw):Prop:=Below w0.heap.size w0 w∧∀ f∈L,f.ok w
section
variable {w0 w w':World} {L:List Fw} {A B:Option Addr} {m q m2 q2:Nat} {K:Ending→World→Prop}
theorem Sw.step (h:Sw w0 w L) (hb:Below w.heap.size w w'):Sw w0 w' L:=⟨below_step h.1 hb,fun f hf=>by
  have:=h.2 f hf
  cases f <;> exact ⟨this.1,Kd.C_below this.2 hb⟩⟩
theorem Sw.cons {f:Fw} (h:Sw w0 w L) (hf:f.ok w):Sw w0 w (f::L):=⟨h.1,fun x hx=>by
  rcases List.mem_cons.1 hx with rfl|hx
  · exact hf
  · exact h.2 x hx⟩
theorem Sw.drop {f:Fw} (h:Sw w0 w (f::L)):Sw w0 w L:=⟨h.1,fun x hx=>h.2 x (List.mem_cons_of_mem _ hx)⟩
theorem big_go {l:List Int} {r:Bool} (h:Sw w0 w L) (hf:.u A m q l∈L) (hr:decide ((m:Int) > 1048576)=r) (k:∀ w',Sw w0 w' L→K (.returned (.bool r)) w'):Calls Tryz.prog 13 #[.slice A m q] w K:=by
  obtain ⟨h1,h2⟩:=h.2 _ hf
  obtain rfl:=h2.1
  subst hr
  exact (laws_big.calls A q l _ w h2 h1 rfl).mono (fun e w' ⟨he,hd⟩=>he ▸ k w' (h.step hd.below))
theorem draw_go {l:List Int} (h:Sw w0 w L) (hf:.u A m q l∈L) (hm:l.length≤1048576) (k:∀ A m q l w',m=l.length→named l→l.length≤4 ^ 9→Sw w0 w' (.n A m q l::L)→K (.returned (.slice A m q)) w'):Calls Tryz.prog 14 #[.slice A m q] w K:=by
  obtain ⟨h1,h2⟩:=h.2 _ hf
  obtain rfl:=h2.1
  refine (draw_closed A q l h2 h1 hm).mono (fun e w' he=>?_)
  obtain ⟨A,n,q,l,rfl,e1,e2,e3,e4,e5⟩:=he
  exact k A n q l w' e2.1.symm e3 e4 ((h.step e5).cons ⟨e1,e2⟩)
theorem ok_go {l:List S45} {r:Bool} {j:Nat} (h:Sw w0 w L) (hf:.n A m q l∈L) (hk:spec_NodesOk.f j l=some r) (k:∀ w',Sw w0 w' L→K (.returned (.bool r)) w'):Calls Tryz.prog 15 #[.slice A m q] w K:=by
  obtain ⟨h1,h2⟩:=h.2 _ hf
  obtain rfl:=h2.1
  exact (spec_NodesOk.calls j A q l r w h2 h1 hk).mono (fun e w' ⟨he,hd⟩=>he ▸ k w' (h.step hd))
theorem sites_go {l:List S45} {S:List S30} {j:Nat} (h:Sw w0 w L) (hf:.n A m q l∈L) (hk:spec_Sites.f j l=some S) (k:∀ A m q w',m=S.length→Sw w0 w' (.b A m q S::L)→K (.returned (.slice A m q)) w'):Calls Tryz.prog 16 #[.slice A m q] w K:=by
  obtain ⟨h1,h2⟩:=h.2 _ hf
  obtain rfl:=h2.1
  refine (spec_Sites.calls j A q l S w h2 h1 hk).mono (fun e w' he=>?_)
  obtain ⟨v,rfl,hR,hb⟩:=he
  obtain ⟨B,q',rfl⟩:=Kd.R_slice hR
  exact k B _ q' w' rfl ((h.step hb).cons ⟨(Kd.R_reads' hR).2.1,(Kd.R_reads' hR).2.2⟩)
theorem rename_go {l x:List S45} {b0 b1:Int} {s:ByteArray} {r:Bool} {j:Nat} (h:Sw w0 w L) (hf:.n A m q l∈L) (hk:impl_RenameOne.f j l b0 b1 s=some (x,r)) (k:∀ A m q w',Sw w0 w' (.n A m q x::L)→K (.returned (.tuple #[.slice A m q,.bool r])) w'):Calls Tryz.prog 9 #[.slice A m q,.agg #[.int .i64 b0,.int .i64 b1],.string s] w K:=by
  obtain ⟨h1,h2⟩:=h.2 _ hf
  obtain rfl:=h2.1
  refine (impl_RenameOne.calls j A q l b0 b1 s x r w h2 h1 hk).mono (fun e w' he=>?_)
  obtain ⟨v,rfl,hR,hb⟩:=he
  obtain ⟨B,q',rfl⟩:=Kd.R_slice hR
  exact k B _ q' w' ((h.step hb).cons ⟨(Kd.R_reads' hR).2.1,(Kd.R_reads' hR).2.2⟩)
theorem alpha_go {l x:List S45} {r:Bool} {j:Nat} (h:Sw w0 w L) (hx:.n A m q x∈L) (hf:.n B m2 q2 l∈L) (hk:spec_AlphaSame.f j x l=some r) (k:∀ w',Sw w0 w' L→K (.returned (.bool r)) w'):Calls Tryz.prog 17 #[.slice A m q,.slice B m2 q2] w K:=by
  obtain ⟨h1,h2⟩:=h.2 _ hx
  obtain ⟨h3,h4⟩:=h.2 _ hf
  obtain rfl:=h2.1
  obtain rfl:=h4.1
  exact (spec_AlphaSame.calls j A q x B q2 l r w h2 h1 h4 h3 hk).mono (fun e w' ⟨he,hd⟩=>he ▸ k w' (h.step hd))
theorem canon_go {l c:List S45} {j:Nat} (h:Sw w0 w L) (hf:.n A m q l∈L) (hk:impl_Canon.f j l=some c) (k:∀ A m q w',m=c.length→Sw w0 w' (.n A m q c::L)→K (.returned (.slice A m q)) w'):Calls Tryz.prog 18 #[.slice A m q] w K:=by
  obtain ⟨h1,h2⟩:=h.2 _ hf
  obtain rfl:=h2.1
  refine (impl_Canon.calls j A q l c w h2 h1 hk).mono (fun e w' he=>?_)
  obtain ⟨v,rfl,hR,hb⟩:=he
  obtain ⟨B,q',rfl⟩:=Kd.R_slice hR
  exact k B _ q' w' rfl ((h.step hb).cons ⟨(Kd.R_reads' hR).2.1,(Kd.R_reads' hR).2.2⟩)
theorem word_go {s:ByteArray} {r:Bool} {j:Nat} (h:Sw w0 w L) (hk:impl_IsWord.f j s=some r) (k:∀ w',Below w.heap.size w w'→Sw w0 w' L→K (.returned (.bool r)) w'):Calls Tryz.prog 21 #[.string s] w K :=
  (impl_IsWord.calls j s r w hk).mono (fun e w' ⟨he,hd⟩=>he ▸ k w' hd.below (h.step hd.below))
theorem key_go {s:ByteArray} {r:Bool} {j:Nat} (h:Sw w0 w L) (hk:impl_IsKey.f j s=some r) (k:∀ w',Sw w0 w' L→K (.returned (.bool r)) w'):Calls Tryz.prog 24 #[.string s] w K :=
  (impl_IsKey.calls j s r w hk).mono (fun e w' ⟨he,hd⟩=>he ▸ k w' (h.step hd))
theorem fresh_go {a:Int} {s:ByteArray} {j:Nat} (h:Sw w0 w L) (hk:impl_FreshName.f j a=some s) (k:∀ w',Sw w0 w' L→K (.returned (.string s)) w'):Calls Tryz.prog 23 #[.int .i64 a] w K :=
  (impl_FreshName.calls j a s w hk).mono (fun e w' ⟨he,hd⟩=>he ▸ k w' (h.step hd))
theorem byte_go {l:List Int} (h:Sw w0 w L) (hf:.u A m q l∈L) (hl:l.length≤1048576) (hb:∀ y∈l,0≤y∧y≤255) (i:Int) (hi:i=0∨i=1) (k:∀ (x:Int) w',0≤x→x≤255→Sw w0 w' L→K (.returned (.int .i64 x)) w'):Calls Tryz.prog 22 #[.slice A m q,.int .i64 i] w K:=by
  obtain ⟨h1,h2⟩:=h.2 _ hf
  obtain rfl:=h2.1
  have hx:∃ x,laws_at.f l i=some x∧0≤x∧x≤255:=by
    unfold laws_at.f
    split
    · have h0:0≤i:=by omega
      rw [if_pos h0]
      have hi:i.toNat<l.length:=by omega
      have hr:rd l i=l[i.toNat]:=by unfold rd;simp [List.getD_eq_getElem?_getD,List.getElem?_eq_getElem hi]
      have:=hb _ (List.getElem_mem hi)
      have hw:wrap64 (rd l i)=l[i.toNat]:=by rw [hr];unfold wrap64;omega
      exact ⟨_,rfl,by rw [hw];exact this.1,by rw [hw];exact this.2⟩
    · have hw:wrap64 (wrap64 (i * 37)+wrap64 ((l.length:Int) * 11))=i * 37+l.length * 11:=by unfold wrap64;omega
      have hp:0≤i * 37+l.length * 11:=by omega
      refine ⟨_,rfl,?_,?_⟩
      · rw [hw];exact Int.tmod_nonneg _ hp
      · rw [hw,Int.tmod_eq_emod_of_nonneg hp]
        have:=Int.emod_lt_of_pos (i * 37+l.length * 11) (show (0:Int)<256 by decide)
        omega
  obtain ⟨x,hx,x0,x1⟩:=hx
  exact (laws_at.calls A q l i x w h2 h1 hx).mono (fun e w' ⟨he,hd⟩=>he ▸ k x w' x0 x1 (h.step hd.below))
/-- the names' row, as it is being made, and the free names beside it. -/
def Nm (w0 w:World) (L:List Fw) (vN:Value) (ns:List ByteArray) (vF:Value) (free:List ByteArray):Prop:=∃ w4,Sw w0 w4 L∧Below w4.heap.size w4 w∧Kd.R Kd.string 9 w w4.heap.size (fun _=>True) vN ns∧Kd.R Kd.string 9 w 0 (fun k=>some k≠vN.ownBlock) vF free
theorem Nm.sw {vN vF:Value} {ns free:List ByteArray} (h:Nm w0 w L vN ns vF free):Sw w0 w L:=by
  obtain ⟨w4,h1,h2,_⟩:=h
  exact h1.step h2
theorem Nm.step {vN vF:Value} {ns free:List ByteArray} (h:Nm w0 w L vN ns vF free) (hb:Below w.heap.size w w'):Nm w0 w' L vN ns vF free:=by
  obtain ⟨w4,h1,h2,h3,h4⟩:=h
  exact ⟨w4,h1,below_step h2 hb,Kd.R_below h3 hb,Kd.R_below h4 hb⟩
theorem free_go {c:List S45} {ns free:List ByteArray} {vN:Value} {w4:World} {j:Nat} (h:Sw w0 w4 L) (hB:Below w4.heap.size w4 w) (hN:Kd.R Kd.string 9 w w4.heap.size (fun _=>True) vN ns) (hf:.n A m q c∈L) (hk:impl_FreeNames.f j c=some free) (k:∀ A m q w',Nm w0 w' L vN ns (.slice A m q) free→K (.returned (.slice A m q)) w'):Calls Tryz.prog 19 #[.slice A m q] w K:=by
  obtain ⟨h1,h2⟩:=(h.step hB).2 _ hf
  obtain rfl:=h2.1
  refine (impl_FreeNames.calls j A q c free w h2 h1 hk).mono (fun e w' he=>?_)
  obtain ⟨v,rfl,hR,hb⟩:=he
  obtain ⟨B,q',rfl⟩:=Kd.R_slice hR
  exact k B _ q' w' ⟨w4,h,below_step hB hb,Kd.R_below hN hb,Kd.R_lower (Kd.R_mono (Kd.R_newR hR hN) (fun _ q=>q.2)) (Nat.zero_le _)⟩
theorem hasN_go {vF:Value} {ns free:List ByteArray} {s:ByteArray} {r:Bool} {j:Nat} (h:Nm w0 w L (.slice A m q) ns vF free) (hk:laws_hasText.f j ns s=some r) (k:∀ w',Nm w0 w' L (.slice A m q) ns vF free→K (.returned (.bool r)) w'):Calls Tryz.prog 20 #[.slice A m q,.string s] w K:=by
  obtain ⟨w4,h1,h2,h3,h4⟩:=id h
  have e:=(Kd.R_reads' h3).1
  subst e
  exact (laws_hasText.calls j A q ns s r w (Kd.R_reads' h3).2.2 (Kd.R_reads' h3).2.1 hk).mono (fun e w' ⟨he,hd⟩=>he ▸ k w' (h.step hd.below))
theorem hasF_go {vN:Value} {ns free:List ByteArray} {s:ByteArray} {r:Bool} {j:Nat} (h:Nm w0 w L vN ns (.slice A m q) free) (hk:laws_hasText.f j free s=some r) (k:∀ w',Nm w0 w' L vN ns (.slice A m q) free→K (.returned (.bool r)) w'):Calls Tryz.prog 20 #[.slice A m q,.string s] w K:=by
  obtain ⟨w4,h1,h2,h3,h4⟩:=id h
  have e:=(Kd.R_reads' h4).1
  subst e
  exact (laws_hasText.calls j A q free s r w (Kd.R_reads' h4).2.2 (Kd.R_reads' h4).2.1 hk).mono (fun e w' ⟨he,hd⟩=>he ▸ k w' (h.step hd.below))
end
section
variable {ops:Array Oper} {rest:List Oper} {o:Oper} {a:Act} {Q:Exit→Act→World→Prop} {w0 w W:World} {L:List Fw}
theorem names_new {N:Tmp} (hgd:o.guard=none) (hd:o.dst=some N)
    (hrun:(execOp a.eval o).run Tryz.prog W=.ok (.value (.slice (some ⟨W.heap.size,0,none⟩) 0 0)) (W.alloc (.cells #[] 9)))
    (k:∀ A n q w1,n=0→Below W.heap.size W w1→Kd.R Kd.string 9 w1 W.heap.size (fun _=>True) (.slice A n q) []→wpList Tryz.prog ops Q rest (a.put o.dst (.slice A n q)) w1):wpList Tryz.prog ops Q (o::rest) a W:=by
  refine Kd.R_lit Kd.string (w0:=W) W.heap.size 9 hgd hd (xs:=[]) (inner:=[]) (ok:=fun _=>True) (okp:=fun _=>True) hrun (Reps.none _ _) (fun _ hk=>hk) trivial (Below.refl _ _) (Nat.le_refl _) (by simp) ?_
  intro v1 w1 hR hB _ _
  obtain ⟨A,q,rfl⟩:=Kd.R_slice hR
  exact k A _ q w1 rfl hB hR
theorem Nm.push {vN vF:Value} {ns free:List ByteArray} {y:ByteArray} {s x:Operand} (h:Nm w0 W L vN ns vF free) (hl:ns.length≤100000) (hgd:o.guard=none) (ho:o.op=.call { callee:=.builtin .append,args:=#[s,x],argTypes:=#[42,42] }) (hs:a.eval s=vN) (hx:a.eval x=.slice (some ⟨W.heap.size,0,none⟩) 1 1)
    (k:∀ A n q w1,n=ns.length+1→Nm w0 w1 L (.slice A n q) (ns++[y]) vF free→wpList Tryz.prog ops Q rest (a.put o.dst (.slice A n q)) w1):wpList Tryz.prog ops Q (o::rest) a (W.alloc (.cells #[.string y] 9)):=by
  obtain ⟨w4,h1,h2,h3,h4⟩:=h
  refine Kd.R_append Kd.string (w0:=w4) w4.heap.size hgd s x 42 9 (.string ⟨#[]⟩) 16 ho Tryz.underlying42 info9 rfl (by decide) (by decide) vN ns y [.string y] (fun _=>True) (fun _=>False) hs hx rfl (fun _ h=>h.elim) (fun _ _=>trivial) h3 h2 h2.size (by omega) ?_
  intro v1 w1 hR1 hB1 hg hat
  obtain ⟨A,q,rfl⟩:=Kd.R_slice hR1
  refine k A _ q w1 (by simp) ⟨w4,h1,hB1,hR1,Kd.R_mono (Kd.R_grown (Kd.R_bound h4) hg (fun k q=>q.1)) (fun k q e=>?_)⟩
  rcases hat with hat|⟨b,e',hle⟩
  · exact q.1 (hat ▸ e)
  · rw [e'] at e
    injection e with e
    have:=q.2.2.1
    omega
theorem namesTo_succ (c:List S45) (S:List S30) (i:Nat):namesTo c S (i+1)=namesTo c S i++[nmAt c (rd_T30 S (i:Int))]:=by
  unfold namesTo
  rw [List.range_succ,List.map_append]
  rfl
theorem namesTo_len (c:List S45) (S:List S30) (i:Nat):(namesTo c S i).length=i:=by simp [namesTo]
set_option maxHeartbeats 1000000 in
set_option maxRecDepth 100000 in
theorem fresh_calls (P:FreshP) (A0:Option Addr) (c0:Nat) (code:List Int) (w:World) (hr0:Kd.C (Kd.int .u8) w A0 code.length code) (hc0:code.length≤c0) (hb:∀ y∈code,0≤y∧y≤255) :
    Calls Tryz.prog 4 #[.slice A0 code.length c0] w fun e w'=>e=.returned (.bool true)∧Below w.heap.size w w':=by
  have HS:=am (show Sw w w [.u A0 code.length c0 code] from ⟨Below.refl _ _,fun f hf=>by rw [List.mem_singleton.1 hf];exact ⟨hc0,hr0⟩⟩)
  have HB:=am hb
  have HP:=am P
  clear hr0 hc0 hb P
  rcases Nat.lt_or_ge 1048576 code.length with hbig|hbig
  · have r1:decide ((code.length:Int) > 1048576)=true:=decide_eq_true (by omega)
    have R1:=am r1
    clear r1 hbig
    go_enter Tryz.func4,Tryz.ntmps4
    go_wp2_with (first
      | (go_at_call 13;apply big_go HS.out (by repeat (first|exact List.mem_cons_self|apply List.mem_cons_of_mem)) R1.out;intro w' h;replace HS:=am h;clear h))
    go_ret
    exact ⟨rfl,HS.out.1⟩
  have r1:decide ((code.length:Int) > 1048576)=false:=decide_eq_false (by omega)
  have R1:=am (⟨r1,hbig⟩:_∧_)
  clear r1 hbig
  go_enter Tryz.func4,Tryz.ntmps4
  go_wp2_with (first
    | (go_at_call 13;apply big_go HS.out (by repeat (first|exact List.mem_cons_self|apply List.mem_cons_of_mem)) R1.out.1;intro w' h;replace HS:=am h;clear h)
    | (go_at_call 14;apply draw_go HS.out (by repeat (first|exact List.mem_cons_self|apply List.mem_cons_of_mem)) R1.out.2;intro Al ml ql l w' hm hn hl h;subst hm;replace HS:=am h;obtain ⟨j,ok,hk,hL⟩:=HP.out.1 l hn hl;have HK:=am hk;clear h hn hl hk;cases ok;rotate_left;(obtain ⟨S,c,free,hF⟩:=hL rfl;have HL:=am hF;clear hF hL);rotate_left;clear hL)
    | (go_at_call 15;apply ok_go HS.out (by repeat (first|exact List.mem_cons_self|apply List.mem_cons_of_mem)) HK.out;intro w' h;replace HS:=am h;clear h)
    | (go_at_call 16;obtain ⟨j,hk⟩:=HL.out.1;apply sites_go HS.out (by repeat (first|exact List.mem_cons_self|apply List.mem_cons_of_mem)) hk;intro As ms qs w' hm h;subst hm;clear hk;replace HS:=am h;clear h))
  · go_ret
    exact ⟨rfl,HS.out.1⟩
  go_loopg [5] S.length (fun kq v5 w'=>∃ i:Nat,v5=.int .i64 (i:Int)∧Aside0 (i+kq=S.length)∧Aside0 (Sw w w' [.b As S.length qs S,.n Al l.length ql l,.u A0 code.length c0 code]))
  case atStart=>exact ⟨0,rfl,⟨by simp⟩,HS⟩
  case round =>
    clear HS HK
    obtain ⟨i,rfl,HI,HS⟩:=hrel
    have wi:wrap64 ((i:Int)+1)=i+1:=by have:=HI.out;have:=HL.out.2.1;unfold wrap64;omega
    rcases Nat.lt_or_ge i S.length with ci|ci
    · obtain ⟨j,x,hr,ha⟩:=HL.out.2.2.1 i ci
      have HR:=am (⟨hr,ha⟩:_∧_)
      clear hr ha
      obtain ⟨ad,e,x0,x1⟩:=at_T30 (HS.out.2 (.b As S.length qs S) (by repeat (first|exact List.mem_cons_self|apply List.mem_cons_of_mem))).2 (i:Int) (by omega) (by omega)
      cases e
      simp only [Int.toNat_natCast] at x0 x1
      have CI:=am ci
      have cib:(i<S.length)=True:=eq_true ci
      clear ci
      go_wp2_with (first
        | (go_at_call 9;apply rename_go HS.out (l:=l) (by repeat (first|exact List.mem_cons_self|apply List.mem_cons_of_mem)) HR.out.1;intro A m q w' h;replace HS:=am h;clear h)
        | (go_at_call 17;apply alpha_go HS.out (l:=l) (x:=x) (by repeat (first|exact List.mem_cons_self|apply List.mem_cons_of_mem)) (by repeat (first|exact List.mem_cons_self|apply List.mem_cons_of_mem)) HR.out.2;intro w' h;replace HS:=am h;clear h))
      go_roundg (gk - 1)
      case measure=>have:=HI.out;have:=CI.out;omega
      case rel=>exact ⟨i+1,by rw [wi];rfl,⟨by have:=HI.out;have:=CI.out;omega⟩,⟨HS.out.drop⟩⟩
    · have cib:(i<S.length)=False:=eq_false (by omega)
      clear ci wi HI
      go_wp2_with (first
        | (go_at_call 18;obtain ⟨j,hk⟩:=HL.out.2.2.2.1;apply canon_go HS.out (l:=l) (by repeat (first|exact List.mem_cons_self|apply List.mem_cons_of_mem)) hk;intro Ac mc qc w' hm h;rw [HL.out.2.2.2.2.1] at hm;subst hm;clear hk;replace HS:=am h;clear h)
        | ((with_reducible refine gate_lit (t:=42) (n:=0) rfl ?_);apply names_new;(case hd=>rfl);(case hgd=>rfl);(case hrun=>first|(go_simp;done)|(go_simp;rfl));intro An mn qn w' hm hB hN;subst hm;have HN:=am (⟨hB,hN⟩:_∧_);clear hB hN)
        | (go_at_call 19;obtain ⟨j,hk⟩:=HL.out.2.2.2.2.2.1;apply free_go HS.out HN.out.1 HN.out.2 (c:=c) (by repeat (first|exact List.mem_cons_self|apply List.mem_cons_of_mem)) hk;intro Af mf qf w' h;clear hk HN HS;have HN:=am h;clear h))
      go_loopg [9,11] S.length (fun kq v9 v11 w'=>∃ (A:Option Addr) (m q i:Nat),v9=.slice A m q∧v11=.int .i64 (i:Int)∧Aside0 (i+kq=S.length∧m=i)∧Aside0 (Nm w w' [.n Ac l.length qc c,.b As S.length qs S,.n Al l.length ql l,.u A0 code.length c0 code] (.slice A m q) (namesTo c S i) (.slice Af mf qf) free))
      case atStart=>exact ⟨_,_,_,0,rfl,rfl,⟨by simp,rfl⟩,HN⟩
      case round =>
        clear HN
        obtain ⟨A,m,q,i,rfl,rfl,HI,HN⟩:=hrel
        have wi:wrap64 ((i:Int)+1)=i+1:=by have:=HI.out;have:=HL.out.2.1;unfold wrap64;omega
        rcases Nat.lt_or_ge i S.length with ci|ci
        · obtain ⟨f0,f1,j,t1,t2,t3⟩:=HL.out.2.2.2.2.2.2 i ci
          have HT:=am (⟨t1,t2,t3⟩:_∧_∧_)
          have hcl:=HL.out.2.2.2.2.1
          rw [hcl] at f1
          obtain ⟨ad,e,x0,x1⟩:=at_T30 (HN.out.sw.2 (.b As S.length qs S) (by repeat (first|exact List.mem_cons_self|apply List.mem_cons_of_mem))).2 (i:Int) (by omega) (by omega)
          cases e
          obtain ⟨ad2,e2,y0,y1,y2,y3,y4,y5,y6⟩:=at_T45 (HN.out.sw.2 (.n Ac l.length qc c) (by repeat (first|exact List.mem_cons_self|apply List.mem_cons_of_mem))).2 (rd_T30 S (i:Int)).f0 f0 f1
          cases e2
          simp only [Int.toNat_natCast] at x0 x1
          clear t1 t2 t3 y0 y1 y2 y3 y4 hcl
          have hn1:(rd_T30 S (i:Int)).f1=1→nmAt c (rd_T30 S (i:Int))=(rd_T45 c (rd_T30 S (i:Int)).f0).f6:=fun e=>if_pos e
          have hn2:¬ (rd_T30 S (i:Int)).f1=1→nmAt c (rd_T30 S (i:Int))=(rd_T45 c (rd_T30 S (i:Int)).f0).f5:=fun e=>if_neg e
          have CI:=am ci
          have cib:(i<S.length)=True:=eq_true ci
          replace f0:=eq_true f0
          replace f1:=eq_true f1
          clear ci
          by_cases er:(rd_T30 S (i:Int)).f1=1
          · have erb:((rd_T30 S (i:Int)).f1 == 1)=true:=beq_iff_eq.mpr er
            have EN:=am (hn1 er)
            replace HT:=am (show laws_hasText.f j (namesTo c S i) (rd_T45 c (rd_T30 S (i:Int)).f0).f6=some false∧laws_hasText.f j free (rd_T45 c (rd_T30 S (i:Int)).f0).f6=some false∧impl_IsWord.f j (rd_T45 c (rd_T30 S (i:Int)).f0).f6=some true from EN.out ▸ HT.out)
            have HY:=am HT.out.1
            clear hn1 hn2 er
            go_wp2_with (first
              | (go_at_call 20;apply hasN_go HN.out HY.out;clear HY;intro w' h;replace HN:=am h;clear h)
              | (go_at_call 20;apply hasF_go HN.out HT.out.2.1;intro w' h;replace HN:=am h;clear h)
              | (go_at_call 21;apply word_go HN.out.sw HT.out.2.2;intro w' hb h;clear h;replace HN:=am (HN.out.step hb);clear hb)
              | ((with_reducible refine gate_builtin (b:=.append) rfl ?_);at_builtin;apply Nm.push HN.out;(case hgd=>rfl);(case ho=>rfl);(case hs=>rfl);(case hx=>rfl);(case hl=>have:=CI.out;have:=HL.out.2.1;rw [namesTo_len];omega);intro A n q w' hn h;replace HN:=am h;have HQ:=am hn;clear h hn))
            go_roundg (gk - 1)
            case measure=>have:=HI.out;have:=CI.out;omega
            case rel=>exact ⟨_,_,_,i+1,rfl,by rw [wi];rfl,⟨by have:=HI.out;have:=CI.out;omega,by have:=HQ.out;rw [namesTo_len] at this;exact this⟩,⟨by have:=HN.out;rw [namesTo_succ,EN.out];exact this⟩⟩
          · have erb:((rd_T30 S (i:Int)).f1 == 1)=false:=beq_eq_false_iff_ne.mpr er
            have EN:=am (hn2 er)
            replace HT:=am (show laws_hasText.f j (namesTo c S i) (rd_T45 c (rd_T30 S (i:Int)).f0).f5=some false∧laws_hasText.f j free (rd_T45 c (rd_T30 S (i:Int)).f0).f5=some false∧impl_IsWord.f j (rd_T45 c (rd_T30 S (i:Int)).f0).f5=some true from EN.out ▸ HT.out)
            have HY:=am HT.out.1
            clear hn1 hn2 er
            go_wp2_with (first
              | (go_at_call 20;apply hasN_go HN.out HY.out;clear HY;intro w' h;replace HN:=am h;clear h)
              | (go_at_call 20;apply hasF_go HN.out HT.out.2.1;intro w' h;replace HN:=am h;clear h)
              | (go_at_call 21;apply word_go HN.out.sw HT.out.2.2;intro w' hb h;clear h;replace HN:=am (HN.out.step hb);clear hb)
              | ((with_reducible refine gate_builtin (b:=.append) rfl ?_);at_builtin;apply Nm.push HN.out;(case hgd=>rfl);(case ho=>rfl);(case hs=>rfl);(case hx=>rfl);(case hl=>have:=CI.out;have:=HL.out.2.1;rw [namesTo_len];omega);intro A n q w' hn h;replace HN:=am h;have HQ:=am hn;clear h hn))
            go_roundg (gk - 1)
            case measure=>have:=HI.out;have:=CI.out;omega
            case rel=>exact ⟨_,_,_,i+1,rfl,by rw [wi];rfl,⟨by have:=HI.out;have:=CI.out;omega,by have:=HQ.out;rw [namesTo_len] at this;exact this⟩,⟨by have:=HN.out;rw [namesTo_succ,EN.out];exact this⟩⟩
        · have cib:(i<S.length)=False:=eq_false (by omega)
          clear ci wi HI
          have HS:=am HN.out.sw
          clear HN
          go_wp2_with (first
            | (go_at_call 22;apply byte_go HS.out (l:=code) (by repeat (first|exact List.mem_cons_self|apply List.mem_cons_of_mem)) R1.out.2 HB.out 0 (Or.inl rfl);intro a w' a0 a1 h;replace HS:=am h;have HB2:=am HB.out;obtain ⟨j,s,hs,hw,hy,hT⟩:=HP.out.2 a a0 a1;have wa:wrap64 (a * 30)=a * 30:=(by unfold wrap64;omega);have wb:wrap64 (a * 30+1)=a * 30+1:=(by unfold wrap64;omega);have HA:=am (⟨a0,a1⟩:_∧_);have H0:=am hs;have H1:=am hw;have H2:=am hy;have H3:=am hT;clear h HB a0 a1 hs hw hy hT)
            | (go_at_call 22;apply byte_go HS.out (l:=code) (by repeat (first|exact List.mem_cons_self|apply List.mem_cons_of_mem)) R1.out.2 HB2.out 1 (Or.inr rfl);intro b w' b0 b1 h;replace HS:=am h;obtain ⟨j2,t,ht,hne⟩:=H3.out b b0 b1;have wc:wrap64 (a * 30+1+b)=a * 30+1+b:=(by have:=HA.out;unfold wrap64;omega);have H4:=am ht;have nst:(s.toList == t.toList)=false:=beq_eq_false_iff_ne.mpr hne;clear h HB2 H3 b0 b1 ht hne)
            | (go_at_call 23;apply fresh_go HS.out H4.out;clear H4;intro w' h;replace HS:=am h;clear h)
            | (go_at_call 23;apply fresh_go HS.out H0.out;intro w' h;replace HS:=am h;clear h)
            | (go_at_call 21;apply word_go HS.out H1.out;intro w' hb h;replace HS:=am h;clear h hb)
            | (go_at_call 24;apply key_go HS.out H2.out;intro w' h;replace HS:=am h;clear h))
          go_ret
          exact ⟨rfl,HS.out.1⟩
end
end Go.Proofs.YthmpgocaoccnaaaGreatDoor.PFnFresh.Dw
set_option linter.unusedVariables false
namespace Go.Proofs.YthmpgocaoccnaaaGreatDoorW.Opens
open Go.RowKit Go.Proofs.YthmpgocaoccnaaaGreatDoorW.PrintWords Go.ChangeShapes Go.WideShapes Go.Deep
/-- Whatever is read as a value of the type t is of the kind d, and fine. -/
def Opens {α:Type} (P:Program) (t:TypeId) (d:Kd α) (good:α→Prop):Prop :=
  P.cellsOf t=d.sz∧∀ (H:Type) (enc:TypeId × Value→H) (w:World) (base:Nat) (spare:Nat→Bool) (held:Bool) (fuel:Nat) (cs:List Value) (x:DataW H × List MemPlace),
    DataW.trod enc P w base spare held fuel t cs=some x→∃ a,d.K w a cs∧good a
theorem opens_int {P:Program} {t:TypeId} {k:IntKind} (ht:P.underlying t=some (.int k)) (hc:P.cellsOf t=1):Opens P t (Kd.int k) (fun a=>(Lit.int k a).wf=true) :=
  ⟨hc,fun H enc w base spare held fuel cs x h=>by
    obtain ⟨n,rfl,_,hw⟩:=DataW.trod_int ht h
    exact ⟨n,rfl,hw⟩⟩
theorem opens_bool {P:Program} {t:TypeId} (ht:P.underlying t=some .bool) (hc:P.cellsOf t=1):Opens P t Kd.bool (fun _=>True) :=
  ⟨hc,fun H enc w base spare held fuel cs x h=>by
    obtain ⟨n,rfl,_⟩:=DataW.trod_bool ht h
    exact ⟨n,rfl,trivial⟩⟩
theorem opens_string {P:Program} {t:TypeId} (ht:P.underlying t=some .string) (hc:P.cellsOf t=1):Opens P t Kd.string (fun s=>s.size≤9223372036854775807) :=
  ⟨hc,fun H enc w base spare held fuel cs x h=>by
    obtain ⟨s,rfl,_,hs⟩:=DataW.trod_string ht h
    refine ⟨s,rfl,?_⟩
    unfold maxLen at hs
    omega⟩
theorem choose_list {α:Type} {n:Nat} {p:Nat→α→Prop} (h:∀ i,i<n→∃ x,p i x):∃ l:List α,l.length=n∧∀ (i:Nat) (x:α),l[i]?=some x→p i x:=by
  induction n with
  | zero=>exact ⟨[],rfl,fun i x h=>by simp at h⟩
  | succ n ih =>
    obtain ⟨l,hl,hp⟩:=ih fun i hi=>h i (by omega)
    obtain ⟨x,hx⟩:=h n (by omega)
    refine ⟨l++[x],by simp [hl],fun i y hy=>?_⟩
    rcases Nat.lt_trichotomy i n with hlt|rfl|hgt
    · rw [List.getElem?_append_left (by omega)] at hy
      exact hp i y hy
    · rw [List.getElem?_append_right (by omega),hl,Nat.sub_self] at hy
      obtain rfl:x=y:=by simpa using hy
      exact hx
    · rw [List.getElem?_eq_none (by simp;omega)] at hy
      cases hy
theorem opens_slice {α:Type} {P:Program} {t e:TypeId} {d:Kd α} {good:α→Prop} (ht:P.underlying t=some (.slice e)) (hc:P.cellsOf t=1) (he:Opens P e d good) :
    Opens P t (Kd.slice e d) (fun xs=>xs.length≤9223372036854775807∧∀ x∈xs,good x) :=
  ⟨hc,fun H enc w base spare held fuel cs x h=>by
    rcases open_slice ht h with ⟨rfl,_⟩|⟨a,len,cap,m,n,D,Pl,rfl,hb,hl,hm,hmm,_,hi⟩
    · exact ⟨[],⟨none,0,rfl,Nat.le_refl _,rfl,by simp,fun h=>absurd h (by simp)⟩,by simp,fun x hx=>by cases hx⟩
    · have hlm:len≤m:=by rw [hmm];split <;> omega
      have key:∀ i,i<len→∃ y:α,good y∧∃ c:List Value,c.length=d.sz∧d.K w y c∧∀ j u,c[j]?=some u→w.cell? (a.add (i * d.sz+j))=some u:=by
        intro i hlt
        obtain ⟨cs',hcell,htr⟩:=hi i (by omega)
        obtain ⟨y,hK,hg⟩:=he.2 H enc w base spare held n cs' _ htr
        rw [he.1] at hcell
        obtain ⟨_,hlen,hat⟩:=World.cells?_some hcell
        refine ⟨y,hg,cs',hlen,hK,fun j u hu=>?_⟩
        have hj:j<d.sz:=by rw [← hlen];exact (List.getElem?_eq_some_iff.1 hu).1
        have:=hat j hj
        rw [hu] at this
        rw [← Go.Deep.add_add]
        exact this
      obtain ⟨l,hll,hp⟩:=choose_list key
      unfold maxLen at hm
      subst hll
      refine ⟨l,⟨some a,cap,rfl,hl,rfl,by omega,fun _=>⟨a,rfl,fun j p hj=>?_⟩⟩,by omega,fun y hy=>?_⟩
      · obtain ⟨_,c,h1,h2,h3⟩:=hp j p hj
        exact ⟨c,h1,h2,h3⟩
      · obtain ⟨i,hi'⟩:=List.getElem?_of_mem hy
        exact (hp i y hi').1⟩
/-- The fields from an offset on, one behind another. -/
def OpensFs {α:Type} (P:Program) (fs:List Field) (off:Nat) (d:Kd α) (good:α→Prop):Prop :=
  ∀ (H:Type) (enc:TypeId × Value→H) (w:World) (base:Nat) (spare:Nat→Bool) (held:Bool) (fuel:Nat) (cs:List Value),cs.length=d.sz →
    (∀ (i:Nat) (f:Field),fs[i]?=some f→∃ y,DataW.trod enc P w base spare held fuel f.type ((cs.drop (f.offset - off)).take (P.cellsOf f.type))=some y)→∃ a,d.K w a cs∧good a
theorem opensFs_last {α:Type} {P:Program} {f:Field} {off:Nat} {d:Kd α} {good:α→Prop} (ho:f.offset=off) (h:Opens P f.type d good):OpensFs P [f] off d good:=by
  intro H enc w base spare held fuel cs hl hf
  obtain ⟨y,hy⟩:=hf 0 f rfl
  rw [ho,Nat.sub_self,List.drop_zero,h.1,← hl,List.take_length] at hy
  exact h.2 H enc w base spare held fuel cs y hy
theorem opensFs_cons {α β:Type} {P:Program} {f:Field} {fs:List Field} {off:Nat} {d:Kd α} {d':Kd β} {good:α→Prop} {good':β→Prop} (ho:f.offset=off) (h:Opens P f.type d good)
    (hle:fs.all (fun g=>decide (off+d.sz≤g.offset))=true) (h':OpensFs P fs (off+d.sz) d' good'):OpensFs P (f::fs) off (Kd.pair d d') (fun x=>good x.1∧good' x.2):=by
  intro H enc w base spare held fuel cs hl hf
  obtain ⟨y,hy⟩:=hf 0 f rfl
  have hl':cs.length=d.sz+d'.sz:=hl
  rw [ho,Nat.sub_self,List.drop_zero,h.1] at hy
  obtain ⟨a,ha,ga⟩:=h.2 H enc w base spare held fuel _ y hy
  obtain ⟨b,hb,gb⟩:=h' H enc w base spare held fuel (cs.drop d.sz) (by rw [List.length_drop];omega) (by
    intro i g hg
    obtain ⟨z,hz⟩:=hf (i+1) g (by simpa using hg)
    have hlg:=List.all_eq_true.1 hle g (List.mem_of_getElem? hg)
    have hlg':off+d.sz≤g.offset:=of_decide_eq_true hlg
    refine ⟨z,?_⟩
    rw [List.drop_drop,show d.sz+(g.offset - (off+d.sz))=g.offset - off by omega]
    exact hz)
  exact ⟨(a,b),⟨cs.take d.sz,cs.drop d.sz,(List.take_append_drop _ _).symm,ha,hb⟩,ga,gb⟩
theorem opens_struct {α β:Type} {P:Program} {t:TypeId} {fs:Array Field} {d:Kd α} {good:α→Prop} (f:β→α) (back:α→β) (hfb:∀ a,f (back a)=a) (ht:P.underlying t=some (.struct fs)) (hc:P.cellsOf t=d.sz)
    (h:OpensFs P fs.toList 0 d good):Opens P t (Kd.iso d f) (fun b=>good (f b)) :=
  ⟨hc,fun H enc w base spare held fuel cs x hx=>by
    obtain ⟨xs,n,_,_,hl,hxl,hf⟩:=DataW.trod_struct ht hx
    obtain ⟨a,ha,ga⟩:=h H enc w base spare held n cs (by rw [hl,hc]) (by
      intro i g hg
      have hg':fs[i]?=some g:=by rw [← Array.getElem?_toList];exact hg
      have hlt:i<fs.size:=(Array.getElem?_eq_some_iff.1 hg').1
      refine ⟨xs[i]'(by omega),?_⟩
      rw [Nat.sub_zero,hf i g hg',List.getElem?_eq_getElem (by omega)])
    refine ⟨back a,?_,?_⟩
    · show d.K w (f (back a)) cs
      rw [hfb]
      exact ha
    · show good (f (back a))
      rw [hfb]
      exact ga⟩
theorem opens_mono {α:Type} {P:Program} {t:TypeId} {d:Kd α} {good good':α→Prop} (h:Opens P t d good) (hg:∀ a,good a→good' a):Opens P t d good' :=
  ⟨h.1,fun H enc w base spare held fuel cs x hx=>by
    obtain ⟨a,ha,g⟩:=h.2 H enc w base spare held fuel cs x hx
    exact ⟨a,ha,hg a g⟩⟩
end Go.Proofs.YthmpgocaoccnaaaGreatDoorW.Opens
set_option linter.unusedVariables false
namespace Go.Proofs.YthmpgocaoccnaaaGreatDoor.SayFnFresh
open Go.RowKit Go.Proofs.YthmpgocaoccnaaaGreatDoor.PFnFresh Go.Proofs.YthmpgocaoccnaaaGreatDoorW.PrintWords Go.Proofs.YthmpgocaoccnaaaGreatDoorW.Opens
def Pure:Prop:=Dw.FreshP
theorem walk (P:Pure) (A0:Option Addr) (c0:Nat) (l0:List Int) (w:World) (hr0:Kd.C (Kd.int .u8) w A0 l0.length l0) (hc0:l0.length≤c0) (g0:l0.length≤9223372036854775807∧∀ y∈l0,(Lit.int .u8 y).wf=true) :
    Calls Tryz.prog 4 #[.slice A0 l0.length c0] w fun e w'=>e=.returned (.bool true)∧Below w.heap.size w w' :=
  Dw.fresh_calls P A0 c0 l0 w hr0 hc0 fun y hy=>by
    have:=g0.2 y hy
    simp [Lit.wf,IntKind.min,IntKind.max,IntKind.signed,IntKind.bits] at this
    omega
end Go.Proofs.YthmpgocaoccnaaaGreatDoor.SayFnFresh
