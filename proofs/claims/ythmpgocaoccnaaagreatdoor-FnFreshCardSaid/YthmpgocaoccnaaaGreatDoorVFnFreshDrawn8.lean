/- Drawn8: texts of this claim, in one. -/
import Derived.Test.YthmpgocaoccnaaaGreatDoorVFnFreshDrawn5
import Derived.Test.YthmpgocaoccnaaaGreatDoorVFnFreshDrawn7
set_option linter.unusedVariables false
set_option linter.unusedSimpArgs false
namespace Go.Proofs.YthmpgocaoccnaaaGreatDoor.PFnFresh.Dw
open Go.RowKit Go.Proofs.YthmpgocaoccnaaaGreatDoorW.PrintWords Go.Proofs.YthmpgocaoccnaaaGreatDoorW.PrintLast Go.Proofs.YthmpgocaoccnaaaGreatDoorW.PrintMore
theorem loose_all:∀ d,d≤8→LooseC d
  | 0,h=>loose_step 0 h (fun q=>absurd q (by omega))
  | d+1,h=>loose_step (d+1) h (fun _=>loose_all d (by omega))
section
variable {w0 w:World} {g:Nat} {L:List Fa}
set_option maxHeartbeats 8000000 in
set_option maxRecDepth 100000 in
theorem prog_any (h:St w0 g w L):Calls Tryz.prog 75 #[.pointer (some ⟨g,0,none⟩)] w (Out w0 g L (4 ^ 9)):=by
  have HS:=am h
  clear h
  go_enter Tryz.func75,Tryz.ntmps75
  go_wp2
  go_loopg [3] 4 (fun kq v3 w'=>∃ i:Int,v3=.int .i64 i∧Aside0 (0≤i∧i+kq=4)∧Aside0 (St w0 g w' L))
  case atStart=>exact ⟨0,rfl,⟨by omega,by omega⟩,HS⟩
  case round =>
    clear HS
    obtain ⟨i,rfl,HI,HS⟩:=hrel
    have wi:wrap64 (i+1)=i+1:=by have:=HI.out;unfold wrap64;omega
    by_cases ci:i<4
    · have cib:=decide_eq_true ci
      have CI:=am ci
      clear ci
      go_wp2_with (first
        | (go_at_call 59;(with_reducible refine (below_any HS.out 3).mono ?_);rintro e w' ⟨x,rfl,h0,h1,_,h⟩;replace HS:=am h;clear h;have wx:wrap64 (2+x)=2+x:=(by unfold wrap64;omega);have HX:=am (⟨h0,h1 (by omega)⟩:_∧_);clear h0 h1)
        | (go_at_call 59;(with_reducible refine (below_any HS.out 5).mono ?_);rintro e w' ⟨y,rfl,h0,h1,_,h⟩;replace HS:=am h;clear h;have HY:=am (⟨h0,h1 (by omega)⟩:_∧_);clear h0 h1)
        | ((with_reducible refine gate_lit (t:=42) (n:=0) rfl ?_);apply St.lit_s [] HS.out (by unfold drawnL;decide);(case hd=>rfl);(case hgd=>rfl);(case hm=>decide);(case hrun=>first|(go_simp;done)|(go_simp;rfl));intro A n q w' h;replace HS:=am h;clear h)
        | ((with_reducible refine gate_lit (t:=53) (n:=0) rfl ?_);apply St.lit_i [] HS.out;(case hd=>rfl);(case hgd=>rfl);(case hm=>decide);(case hrun=>first|(go_simp;done)|(go_simp;rfl));intro A n q w' h;replace HS:=am h;clear h)
        | (go_at_call 90;apply gen_go (gen_all 9 (by omega)) HS.out;(case hN=>repeat (first|exact List.mem_cons_self|apply List.mem_cons_of_mem));(case hT=>repeat (first|exact List.mem_cons_self|apply List.mem_cons_of_mem));(case hl=>rfl);(case hl2=>decide);(case hm=>have:=HX.out;have:=HY.out;unfold ms;omega);intro A n q l w' h;replace HS:=am h;clear h))
      all_goals first
        | (go_ret;exact HS.out.fin (Nat.le_refl _) (fun f hf=>by simp [hf]))
        | (go_roundg (gk - 1)
           case measure=>have:=HI.out;have:=CI.out;omega
           case rel=>exact ⟨i+1,by rw [wi],⟨by have:=HI.out;omega,by have:=HI.out;have:=CI.out;omega⟩,⟨HS.out.sub (fun f hf=>by simp [hf])⟩⟩)
    · have cib:=decide_eq_false ci
      clear ci
      go_wp2_with (first
        | (go_at_call 91;(with_reducible refine (int_any HS.out _).mono ?_);rintro e w' ⟨A,n,q,l,rfl,h⟩;replace HS:=am h;clear h))
      go_ret
      exact HS.out.fin (by decide) (fun f hf=>by simp [hf])
set_option maxHeartbeats 8000000 in
set_option maxRecDepth 100000 in
theorem some_any (h:St w0 g w L):Calls Tryz.prog 56 #[.pointer (some ⟨g,0,none⟩)] w (Out w0 g L (4 ^ 9)):=by
  have HS:=am h
  clear h
  go_enter Tryz.func56,Tryz.ntmps56
  go_wp2_with (first
    | (go_at_call 57;(with_reducible refine (once_any HS.out _).mono ?_);rintro e w' ⟨x,rfl,h⟩;replace HS:=am h;clear h;cases x)
    | (go_at_call 74;apply loose_go (loose_all 3 (by omega)) HS.out;(case h1=>decide);(case h2=>decide);(case h3=>decide);intro A n q l w' h;replace HS:=am h;clear h)
    | (go_at_call 75;(with_reducible refine (prog_any HS.out).mono ?_);rintro e w' ⟨A,n,q,l,rfl,h⟩;replace HS:=am h;clear h))
  all_goals go_ret
  all_goals exact HS.out.fin (by decide) (fun f hf=>by simp [hf])
end
end Go.Proofs.YthmpgocaoccnaaaGreatDoor.PFnFresh.Dw
set_option linter.unusedVariables false
set_option linter.unusedSimpArgs false
namespace Go.Proofs.YthmpgocaoccnaaaGreatDoor.PFnFresh.Dw
open Go.RowKit Go.Proofs.YthmpgocaoccnaaaGreatDoorW.PrintWords Go.Proofs.YthmpgocaoccnaaaGreatDoorW.PrintLast Go.Proofs.YthmpgocaoccnaaaGreatDoorW.PrintMore
section
variable {ops:Array Oper} {rest:List Oper} {o:Oper} {a:Act} {Q:Exit→Act→World→Prop} {w0 w W:World} {g:Nat} {L:List Fa}
def cellsOf (x:S45):List Value:=[.int .i64 x.f0,.int .i64 x.f1,.int .i64 x.f2,.int .i64 x.f3,.int .i64 x.f4,.string x.f5,.string x.f6]
theorem St.r0 {N:Tmp} {L1:List Fa} (c:Nat) (h:St w0 g W (.k w::L1)) (hgd:o.guard=none) (hd:o.dst=some N)
    (hrun:(execOp a.eval o).run Tryz.prog W=.ok (.value (.slice (some ⟨W.heap.size,0,none⟩) 0 0)) (W.alloc (.cells #[] 45)))
    (k:∀ A n q w1,St w0 g w1 (.k w::.r w (.slice A n q) c []::L1)→wpList Tryz.prog ops Q rest (a.put o.dst (.slice A n q)) w1):wpList Tryz.prog ops Q (o::rest) a W:=by
  refine Kd.R_lit k45 (w0:=W) 0 45 hgd hd (xs:=[]) (inner:=[]) (ok:=fun k=>k≠g) (okp:=fun k=>k≠g) hrun (Reps.none _ _) (fun _ hk=>hk) (Nat.ne_of_gt h.lt) (Below.refl _ _) (Nat.zero_le _) (by simp) ?_
  intro v1 w1 hR _ hg hat
  obtain ⟨A,q,rfl⟩:=Kd.R_slice hR
  refine k _ _ _ w1 ((h.below (below_none hg)).two ⟨hR,⟨(by intro x hx;cases hx),by simp⟩,fun b e=>?_⟩)
  obtain ⟨b',e',hle⟩:=hat
  rw [e'] at e
  injection e with e
  have:=h.top.new_ge
  omega
theorem St.r1 {v v1:Value} {c:Nat} {l1:List S45} {W1:World} (hk:St w0 g W [.k w]) (hl:w0.heap.size≤w.heap.size) (hR:Kd.R k45 45 W1 0 (fun k=>k≠g) v1 l1) (hg:W.grownBy W1 v.ownBlock) (hat:v1.ownBlock=v.ownBlock∨∃ b,v1.ownBlock=some b∧W.heap.size≤b) (hv:∀ k,v.ownBlock=some k→w.heap.size≤k∧k≠g) (hn:named l1) (hc:l1.length≤c):St w0 g W1 [.k w,.r w v1 c l1] :=
  (hk.grown hl hg hv).two ⟨hR,⟨hn,hc⟩,fun b e=>by
    rcases hat with hat|⟨b',e',hle⟩
    · exact (hv b (hat ▸ e)).1
    · rw [e'] at e
      injection e with e
      have:=hk.new_ge
      omega⟩
theorem St.app_n {v v2:Value} {c:Nat} {l2:List S45} {s x:Operand} (h:St w0 g W [.n v2 c l2,.k w,.r w v c []]) (hl:w0.heap.size≤w.heap.size) (hc:c≤1000000) (hgd:o.guard=none) (ho:o.op=.call { callee:=.builtin .append,args:=#[s,x],argTypes:=#[26,26] }) (hs:a.eval s=v) (hx:a.eval x=v2)
    (k:∀ b n q w1,n=l2.length→0<n→n≤c→St w0 g w1 [.k w,.r w (.slice (some ⟨b,0,none⟩) n q) c l2]→wpList Tryz.prog ops Q rest (a.put o.dst (.slice (some ⟨b,0,none⟩) n q)) w1):wpList Tryz.prog ops Q (o::rest) a W:=by
  obtain ⟨h2,hg2⟩:=h.2.2 (.n v2 c l2) (by simp)
  obtain ⟨hR,_,hb⟩:=h.2.2 (.r w v c []) (by simp)
  have hk:St w0 g W [.k w]:=h.sub (fun f hf=>by rw [List.mem_singleton.1 hf];simp)
  obtain ⟨A,q,rfl⟩:=Kd.R_slice h2
  have:=hg2.2.2
  refine Kd.R_append_rows k45 (w0:=W) 0 hgd s x 26 45 (.agg #[(.int .i64 0),(.int .i64 0),(.int .i64 0),(.int .i64 0),(.int .i64 0),(.string ⟨#[]⟩),(.string ⟨#[]⟩)]) 72 ho Tryz.underlying26 info45 rfl (by decide) (by decide) v [] l2 A l2.length q (fun k=>k≠g) (fun _=>False) hs hx hR (Kd.R_reads' h2).2.2 (fun _ _ h=>h) (fun _ h=>h.elim) (fun k q=>Nat.ne_of_gt (Nat.lt_of_lt_of_le h.lt q)) (Below.refl _ _) (Nat.zero_le _) (by simp;omega) ?_
  intro v1 w1 hR1 _ hg hat
  rw [List.nil_append] at hR1
  obtain ⟨b,q',rfl,_,_,_⟩:=Kd.R_form hR1 hg2.2.1
  exact k b _ q' w1 rfl hg2.2.1 hg2.2.2 (St.r1 hk hl hR1 hg hat (fun k e=>⟨hb k e,hR.1 k e⟩) hg2.1 hg2.2.2)
theorem St.one_n {b n q c:Nat} {l:List S45} {y0 y1 y2 y3 y4:Int} {y5 y6:ByteArray} {s x:Operand} (h:St w0 g W [.k w,.r w (.slice (some ⟨b,0,none⟩) n q) c l]) (hl:w0.heap.size≤w.heap.size) (hc:l.length+1≤c) (hc2:c≤1000000) (h5:drawnB y5=true) (h6:drawnB y6=true) (hgd:o.guard=none) (ho:o.op=.call { callee:=.builtin .append,args:=#[s,x],argTypes:=#[26,26] }) (hs:a.eval s=.slice (some ⟨b,0,none⟩) n q) (hx:a.eval x=.slice (some ⟨W.heap.size,0,none⟩) 1 1)
    (k:∀ b n q w1,n=l.length+1→St w0 g w1 [.k w,.r w (.slice (some ⟨b,0,none⟩) n q) c (l++[(⟨y0,y1,y2,y3,y4,y5,y6⟩:S45)])]→wpList Tryz.prog ops Q rest (a.put o.dst (.slice (some ⟨b,0,none⟩) n q)) w1):wpList Tryz.prog ops Q (o::rest) a (W.alloc (.cells #[.int .i64 y0,.int .i64 y1,.int .i64 y2,.int .i64 y3,.int .i64 y4,.string y5,.string y6] 45)):=by
  obtain ⟨hR,hn,hb⟩:=h.2.2 (.r w (.slice (some ⟨b,0,none⟩) n q) c l) (by simp)
  refine Kd.R_append k45 (w0:=W) 0 hgd s x 26 45 (.agg #[(.int .i64 0),(.int .i64 0),(.int .i64 0),(.int .i64 0),(.int .i64 0),(.string ⟨#[]⟩),(.string ⟨#[]⟩)]) 72 ho Tryz.underlying26 info45 rfl (by decide) (by decide) _ l (⟨y0,y1,y2,y3,y4,y5,y6⟩:S45) [.int .i64 y0,.int .i64 y1,.int .i64 y2,.int .i64 y3,.int .i64 y4,.string y5,.string y6] (fun k=>k≠g) (fun _=>False) hs hx (k45_mkM _ _ _ _) (fun _ h=>h.elim) (fun k q=>Nat.ne_of_gt (Nat.lt_of_lt_of_le h.lt q)) hR (Below.refl _ _) (Nat.zero_le _) (by omega) ?_
  intro v1 w1 hR1 _ hg hat
  obtain ⟨b1,q',rfl,_,_,_⟩:=Kd.R_form hR1 (by simp)
  exact k b1 _ q' w1 (by simp) (St.r1 h.top hl hR1 hg hat (fun k e=>⟨hb k e,hR.1 k e⟩) (hn.1.snoc h5 h6) (by simpa using hc))
theorem St.rset {b n q c:Nat} {l:List S45} (h:St w0 g W [.k w,.r w (.slice (some ⟨b,0,none⟩) n q) c l]) (hl:w0.heap.size≤w.heap.size) (i:Int) (h0:0≤i) (h1:i<(n:Int)) (j:Nat) (hj:j<7) (u:Value) (x':S45) (h5:drawnB x'.f5=true) (h6:drawnB x'.f6=true) (hM:k45.M W 0 (fun _=>False) x' ((cellsOf (rd_T45 l i)).take j++[u]++(cellsOf (rd_T45 l i)).drop (j+1))):(∃ v,W.cell? ⟨b,i.toNat * 7+j,none⟩=some v)∧W.frozen? ⟨b,i.toNat * 7+j,none⟩=false∧St w0 g (W.setCell ⟨b,i.toNat * 7+j,none⟩ u) [.k w,.r w (.slice (some ⟨b,0,none⟩) n q) c (l.set i.toNat x')]:=by
  obtain ⟨hR,hn,hb⟩:=h.2.2 (.r w (.slice (some ⟨b,0,none⟩) n q) c l) (by simp)
  obtain ⟨ce,hcl,hMe,hcc,hfr⟩:=Kd.R_elem hR z45 i h0 h1
  obtain rfl:=k45_openM hMe
  have hP:=Kd.R_seg hR i h0 h1 (seg:=[u]) (j:=j) hcl hcc (show j+1≤7 by omega) (x':=x') hM (fun _ h=>h.elim)
  have hbb:some b=(Value.slice (some ⟨b,0,none⟩) n q).ownBlock:=by simp [Value.ownBlock]
  refine ⟨?_,hfr j,St.two (h.top.grown hl hP.2 (fun k e=>?_)) ⟨hP.1,⟨?_,by rw [List.length_set];exact hn.2⟩,hb⟩⟩
  · have:j=0∨j=1∨j=2∨j=3∨j=4∨j=5∨j=6:=by omega
    rcases this with rfl|rfl|rfl|rfl|rfl|rfl|rfl <;> exact ⟨_,hcc _ _ rfl⟩
  · rw [hbb] at e
    exact ⟨hb k e,hR.1 k e⟩
  · intro y hy
    rcases List.mem_or_eq_of_mem_set hy with hy|rfl
    · exact hn.1 y hy
    · exact ⟨h5,h6⟩
theorem St.rst_i {b n q c j:Nat} {l:List S45} {i y:Int} {p:Tmp} {x:Operand} (h:St w0 g W [.k w,.r w (.slice (some ⟨b,0,none⟩) n q) c l]) (hl:w0.heap.size≤w.heap.size) (h0:0≤i) (h1:i<(n:Int)) (hgd:o.guard=none) (hd:o.dst=none) (ho:o.op=.store 3 (.tmp p) x) (hj:j=0∨j=1∨j=4) (hp:a.eval (.tmp p)=.pointer (some ⟨b,i.toNat * 7+j,none⟩)) (hx:a.eval x=.int .i64 y)
    (k:∀ l1 w1,l1.length=l.length→St w0 g w1 [.k w,.r w (.slice (some ⟨b,0,none⟩) n q) c l1]→wpList Tryz.prog ops Q rest a w1):wpList Tryz.prog ops Q (o::rest) a W:=by
  obtain ⟨hR,hn,hb⟩:=h.2.2 (.r w (.slice (some ⟨b,0,none⟩) n q) c l) (by simp)
  have hd5:drawnB (rd_T45 l i).f5=true∧drawnB (rd_T45 l i).f6=true:=by
    have hi:i.toNat<l.length:=by have:=(Kd.R_reads' hR).1;omega
    have:=hn.1 _ (List.getElem_mem hi)
    unfold rd_T45
    simpa [List.getD_eq_getElem?_getD,List.getElem?_eq_getElem hi] using this
  rcases hj with rfl|rfl|rfl
  · obtain ⟨⟨v,hv⟩,hf,hS⟩:=h.rset hl i h0 h1 0 (by decide) (.int .i64 y) ⟨y,(rd_T45 l i).f1,(rd_T45 l i).f2,(rd_T45 l i).f3,(rd_T45 l i).f4,(rd_T45 l i).f5,(rd_T45 l i).f6⟩ hd5.1 hd5.2 (k45_mkM _ _ _ _)
    refine store_event hgd ho hd (run_store_i ho hp hx hv hf) ?_
    rintro w1 rfl
    exact k _ _ (by rw [List.length_set]) hS
  · obtain ⟨⟨v,hv⟩,hf,hS⟩:=h.rset hl i h0 h1 1 (by decide) (.int .i64 y) ⟨(rd_T45 l i).f0,y,(rd_T45 l i).f2,(rd_T45 l i).f3,(rd_T45 l i).f4,(rd_T45 l i).f5,(rd_T45 l i).f6⟩ hd5.1 hd5.2 (k45_mkM _ _ _ _)
    refine store_event hgd ho hd (run_store_i ho hp hx hv hf) ?_
    rintro w1 rfl
    exact k _ _ (by rw [List.length_set]) hS
  · obtain ⟨⟨v,hv⟩,hf,hS⟩:=h.rset hl i h0 h1 4 (by decide) (.int .i64 y) ⟨(rd_T45 l i).f0,(rd_T45 l i).f1,(rd_T45 l i).f2,(rd_T45 l i).f3,y,(rd_T45 l i).f5,(rd_T45 l i).f6⟩ hd5.1 hd5.2 (k45_mkM _ _ _ _)
    refine store_event hgd ho hd (run_store_i ho hp hx hv hf) ?_
    rintro w1 rfl
    exact k _ _ (by rw [List.length_set]) hS
theorem St.rst_s {b n q c j:Nat} {l:List S45} {i:Int} {y:ByteArray} {p:Tmp} {x:Operand} (h:St w0 g W [.k w,.r w (.slice (some ⟨b,0,none⟩) n q) c l]) (hl:w0.heap.size≤w.heap.size) (h0:0≤i) (h1:i<(n:Int)) (hgd:o.guard=none) (hd:o.dst=none) (ho:o.op=.store 9 (.tmp p) x) (hj:j=5∨j=6) (hp:a.eval (.tmp p)=.pointer (some ⟨b,i.toNat * 7+j,none⟩)) (hx:a.eval x=.string y) (hy:drawnB y=true)
    (k:∀ l1 w1,l1.length=l.length→St w0 g w1 [.k w,.r w (.slice (some ⟨b,0,none⟩) n q) c l1]→wpList Tryz.prog ops Q rest a w1):wpList Tryz.prog ops Q (o::rest) a W:=by
  obtain ⟨hR,hn,hb⟩:=h.2.2 (.r w (.slice (some ⟨b,0,none⟩) n q) c l) (by simp)
  have hd5:drawnB (rd_T45 l i).f5=true∧drawnB (rd_T45 l i).f6=true:=by
    have hi:i.toNat<l.length:=by have:=(Kd.R_reads' hR).1;omega
    have:=hn.1 _ (List.getElem_mem hi)
    unfold rd_T45
    simpa [List.getD_eq_getElem?_getD,List.getElem?_eq_getElem hi] using this
  rcases hj with rfl|rfl
  · obtain ⟨⟨v,hv⟩,hf,hS⟩:=h.rset hl i h0 h1 5 (by decide) (.string y) ⟨(rd_T45 l i).f0,(rd_T45 l i).f1,(rd_T45 l i).f2,(rd_T45 l i).f3,(rd_T45 l i).f4,y,(rd_T45 l i).f6⟩ hy hd5.2 (k45_mkM _ _ _ _)
    refine store_event hgd ho hd (run_store_s ho hp hx hv hf) ?_
    rintro w1 rfl
    exact k _ _ (by rw [List.length_set]) hS
  · obtain ⟨⟨v,hv⟩,hf,hS⟩:=h.rset hl i h0 h1 6 (by decide) (.string y) ⟨(rd_T45 l i).f0,(rd_T45 l i).f1,(rd_T45 l i).f2,(rd_T45 l i).f3,(rd_T45 l i).f4,(rd_T45 l i).f5,y⟩ hd5.1 hy (k45_mkM _ _ _ _)
    refine store_event hgd ho hd (run_store_s ho hp hx hv hf) ?_
    rintro w1 rfl
    exact k _ _ (by rw [List.length_set]) hS
def Out2 (w0:World) (g:Nat) (L:List Fa) (c:Nat) (e:Ending) (w':World):Prop:=∃ A n q l,e=.returned (.slice A n q)∧St w0 g w' (.m (.slice A n q) c l::L)
theorem St.fin3 {v:Value} {C:Nat} {l:List S45} {L':List Fa} (h0:St w0 g w L) (h:St w0 g W L') (hk:Fa.k w∈L') (hR:Kd.R k45 45 W 0 (fun k=>k≠g) v l) (hn:named l) (hc:l.length≤C):Out2 w0 g L C (.returned v) W:=by
  obtain ⟨A,q,rfl⟩:=Kd.R_slice hR
  have hK:KeepBut w W g none:=h.2.2 _ hk
  have h2:St w0 g W L:=⟨h.1,h.2.1,fun f hf=>Fa.keep (h0.2.2 f hf) hK⟩
  exact ⟨A,_,q,l,rfl,h2.cons ⟨⟨A,_,q,rfl,(Kd.R_reads' hR).2.1,(Kd.R_reads' hR).2.2,own_away hR⟩,hn,hc⟩⟩
set_option maxHeartbeats 8000000 in
set_option maxRecDepth 100000 in
theorem bent_any (h:St w0 g w L):Calls Tryz.prog 58 #[.pointer (some ⟨g,0,none⟩)] w (Out2 w0 g L (4 ^ 9)):=by
  have HS:=am h
  have HL:=am h.le
  have HC:=am h.k0
  clear h
  go_enter Tryz.func58,Tryz.ntmps58
  go_upto_region 4 with (first
    | ((with_reducible refine gate_lit (t:=26) (n:=0) rfl ?_);apply St.r0 (4 ^ 9) HC.out;(case hd=>rfl);(case hgd=>rfl);(case hrun=>first|(go_simp;done)|(go_simp;rfl));intro A n q w' h;replace HC:=am h;clear h)
    | (go_at_call 56;(with_reducible refine (some_any HC.out).mono ?_);rintro e w' ⟨A,n,q,l,rfl,h⟩;replace HC:=am h;clear h)
    | ((with_reducible refine gate_builtin (b:=.append) rfl ?_);at_builtin;apply St.app_n HC.out HL.out (by decide);(case hgd=>rfl);(case ho=>rfl);(case hs=>rfl);(case hx=>rfl);intro b n q w' e1 e2 e3 h;replace HC:=am h;have HN:=am (⟨e1,e2,e3⟩:_∧_∧_);clear h e1 e2 e3)
    | (go_at_call 59;(with_reducible refine (below_any HC.out 14).mono ?_);rintro e w' ⟨y,rfl,h0,h1,_,h⟩;replace HC:=am h;clear h;have HY:=am (⟨h0,h1 (by omega)⟩:_∧_);clear h0 h1)
    | (go_at_call 59;(with_reducible refine (below_any HC.out _).mono ?_);rintro e w' ⟨x,rfl,h0,h1,_,h⟩;replace HC:=am h;clear h;have HX:=am (⟨h0,h1 (by have:=HN.out;omega)⟩:_∧_);clear h0 h1))
  have hy:y=0∨y=1∨y=2∨y=3∨y=4∨y=5∨y=6∨y=7∨y=8∨y=9∨y=10∨y=11∨y=12∨y=13:=by have:=HY.out;omega
  clear HY
  have x0:(0≤x)=True:=eq_true HX.out.1
  have x1:(x<(n:Int))=True:=eq_true HX.out.2
  rcases hy with rfl|rfl|rfl|rfl|rfl|rfl|rfl|rfl|rfl|rfl|rfl|rfl|rfl|rfl
  · have hr:=HC.out.2.2 (.r w (.slice (some ⟨b,0,none⟩) n q) (4 ^ 9) l) (by simp)
    obtain ⟨i0,hi0,_⟩:=Option.map_eq_some_iff.1 info45
    have hcut:=cut_to (P:=Tryz.prog) 26 45 .i64 Tryz.underlying26 hi0 (some ⟨b,0,none⟩) n q x HX.out.1 (by have:=HX.out;omega) (Kd.R_reads' hr.1).2.1
    have HR:=am hr
    clear hr hi0
    go_wp2
    go_ret
    have hm:x.toNat≤l.length:=by have:=HX.out;have:=HN.out;omega
    exact HS.out.fin3 HC.out (by simp) (Kd.R_take (m:=x.toNat) HR.out.1 hm) (fun z hz=>HR.out.2.1.1 z (List.mem_of_mem_take hz)) (by have:=HR.out.2.1.2;rw [List.length_take];omega)
  rotate_left 5
  · clear x0 x1 HX
    go_wp2
    go_loopg [3] 151 (fun kq v3 w'=>∃ (b n q:Nat) (l:List S45),v3=.slice (some ⟨b,0,none⟩) n q∧Aside0 (n=l.length∧n≤4 ^ 9∧151≤n+kq)∧Aside0 (St w0 g w' [.k w,.r w (.slice (some ⟨b,0,none⟩) n q) (4 ^ 9) l]))
    case atStart=>exact ⟨b,n,q,l,rfl,⟨HN.out.1,HN.out.2.2,by omega⟩,HC⟩
    case round =>
      clear HC HN
      obtain ⟨b,n,q,l,rfl,HN,HC⟩:=hrel
      go_wp2_with (first
        | (go_at_call 59;(with_reducible refine (below_any HC.out 2).mono ?_);rintro e w' ⟨y,rfl,h0,h1,_,h⟩;replace HC:=am h;clear h;have wy:wrap64 (150+y)=150+y:=(by unfold wrap64;omega);have HY:=am (h1 (by omega));clear h0 h1)
        | ((with_reducible refine gate_builtin (b:=.append) rfl ?_);at_builtin;apply St.one_n HC.out HL.out;(case hgd=>rfl);(case ho=>rfl);(case hs=>rfl);(case hx=>rfl);(case hc=>have:=HN.out;have:=HY.out;simp only [Nat.reducePow] at *;omega);(case hc2=>decide);(case h5=>decide);(case h6=>decide);intro b n' q w' hn h;replace HC:=am h;have HM:=am hn;clear h hn))
      all_goals first
        | (go_ret
           have hr:=HC.out.2.2 (.r w (.slice (some ⟨b,0,none⟩) n q) (4 ^ 9) l) (by simp)
           exact HS.out.fin3 HC.out (by simp) hr.1 hr.2.1.1 hr.2.1.2)
        | (go_roundg (gk - 1)
           case measure=>have:=HN.out;have:=HY.out;omega
           case rel=>exact ⟨b,n',_,_,rfl,⟨by rw [HM.out];simp,by have:=HN.out;have:=HY.out;have:=HM.out;simp only [Nat.reducePow] at *;omega,by have:=HN.out;have:=HY.out;have:=HM.out;omega⟩,HC⟩)
  all_goals (go_wp2_with (first
    | ((with_reducible refine gate_lit (t:=53) (n:=5) rfl ?_);apply St.lit_i [0,20,-1,2,4] HC.out;(case hd=>rfl);(case hgd=>rfl);(case hm=>decide);(case hrun=>first|(go_simp;done)|(go_simp;rfl));intro A n q w' h;replace HC:=am h;clear h)
    | ((with_reducible refine gate_lit (t:=53) (n:=4) rfl ?_);(first|(apply St.lit_i [-1,x,0,99] HC.out;(case hd=>rfl);(case hgd=>rfl);(case hm=>simp);(case hrun=>first|(go_simp;done)|(go_simp;rfl)))|(apply St.lit_i [-1,65536,4,1] HC.out;(case hd=>rfl);(case hgd=>rfl);(case hm=>decide);(case hrun=>first|(go_simp;done)|(go_simp;rfl))));intro A n q w' h;replace HC:=am h;clear h)
    | ((with_reducible refine gate_lit (t:=42) (n:=5) rfl ?_);apply St.lit_s [⟨#[]⟩,⟨#[102,117,110]⟩,⟨#[88]⟩,⟨#[97,98,99,100,101,102,103,104,105]⟩,⟨#[113]⟩] HC.out (by unfold drawnL;decide);(case hd=>rfl);(case hgd=>rfl);(case hm=>decide);(case hrun=>first|(go_simp;done)|(go_simp;rfl));intro A n q w' h;replace HC:=am h;clear h)
    | (go_at_call 76;(with_reducible refine (pickInt_any HC.out ?s1 ?s2).mono ?_);(case s1=>simp);(case s2=>simp);rintro e w' ⟨z,rfl,_,h⟩;replace HC:=am h;clear h)
    | (go_at_call 77;(with_reducible refine (pick_any HC.out ?s1 ?s2).mono ?_);(case s1=>decide);(case s2=>decide);rintro e w' ⟨z,rfl,hd,h⟩;replace HC:=am h;clear h;have HZ:=am hd;clear hd)
    | ((with_reducible refine gate_store (t:=3) (p:=28) rfl ?_);apply St.rst_i (j:=0) HC.out HL.out HX.out.1 HX.out.2;(case hgd=>rfl);(case hd=>rfl);(case ho=>rfl);(case hj=>decide);(case hp=>rfl);(case hx=>rfl);intro l1 w' hl h;replace HC:=am h;clear h hl)
    | ((with_reducible refine gate_store (t:=3) (p:=38) rfl ?_);apply St.rst_i (j:=1) HC.out HL.out HX.out.1 HX.out.2;(case hgd=>rfl);(case hd=>rfl);(case ho=>rfl);(case hj=>decide);(case hp=>rfl);(case hx=>rfl);intro l1 w' hl h;replace HC:=am h;clear h hl)
    | ((with_reducible refine gate_store (t:=3) (p:=56) rfl ?_);apply St.rst_i (j:=4) HC.out HL.out HX.out.1 HX.out.2;(case hgd=>rfl);(case hd=>rfl);(case ho=>rfl);(case hj=>decide);(case hp=>rfl);(case hx=>rfl);intro l1 w' hl h;replace HC:=am h;clear h hl)
    | ((with_reducible refine gate_store (t:=9) (p:=47) rfl ?_);apply St.rst_s (j:=5) HC.out HL.out HX.out.1 HX.out.2;(case hgd=>rfl);(case hd=>rfl);(case ho=>rfl);(case hj=>decide);(case hp=>rfl);(case hx=>rfl);(case hy=>first|exact HZ.out|decide);intro l1 w' hl h;replace HC:=am h;clear h hl)
    | ((with_reducible refine gate_store (t:=9) (p:=62) rfl ?_);apply St.rst_s (j:=6) HC.out HL.out HX.out.1 HX.out.2;(case hgd=>rfl);(case hd=>rfl);(case ho=>rfl);(case hj=>decide);(case hp=>rfl);(case hx=>rfl);(case hy=>first|exact HZ.out|decide);intro l1 w' hl h;replace HC:=am h;clear h hl)))
  all_goals go_ret
  all_goals (have hr:=HC.out.2.2 (.r w _ (4 ^ 9) _) (by simp;exact ⟨rfl,rfl⟩);exact HS.out.fin3 HC.out (by simp) hr.1 hr.2.1.1 hr.2.1.2)
end
end Go.Proofs.YthmpgocaoccnaaaGreatDoor.PFnFresh.Dw
set_option linter.unusedVariables false
set_option linter.unusedSimpArgs false
namespace Go.Proofs.YthmpgocaoccnaaaGreatDoor.PFnFresh.Dw
open Go.RowKit Go.Proofs.YthmpgocaoccnaaaGreatDoorW.PrintWords Go.Proofs.YthmpgocaoccnaaaGreatDoorW.PrintLast Go.Proofs.YthmpgocaoccnaaaGreatDoorW.PrintMore
section
variable {w0 w W:World} {g:Nat} {L:List Fa}
theorem St.nm {v:Value} {c:Nat} {l:List S45} (h:St w0 g w (.n v c l::L)):St w0 g w (.m v c l::L):=by
  obtain ⟨hR,hg⟩:=h.2.2 _ List.mem_cons_self
  obtain ⟨A,q,rfl⟩:=Kd.R_slice hR
  exact h.drop.cons ⟨⟨A,_,q,rfl,(Kd.R_reads' hR).2.1,(Kd.R_reads' hR).2.2,own_away hR⟩,hg.1,hg.2.2⟩
theorem St.mC {A:Option Addr} {n q c:Nat} {l:List S45} (h:St w0 g w (.m (.slice A n q) c l::L)):n≤q∧Kd.C k45 w A n l:=by
  obtain ⟨⟨A',n',q',e,hn,hC,_⟩,_⟩:=h.2.2 _ List.mem_cons_self
  injection e with e1 e2 e3
  subst e1 e2 e3
  exact ⟨hn,hC⟩
def Out3 (w0:World) (g:Nat) (L:List Fa) (c:Nat) (e:Ending) (w':World):Prop:=∃ A n q l,∃ z:Int,e=.returned (.tuple #[.slice A n q,.int .i64 z])∧St w0 g w' (.m (.slice A n q) c l::L)
set_option maxHeartbeats 8000000 in
set_option maxRecDepth 100000 in
theorem at_any (h:St w0 g w L):Calls Tryz.prog 39 #[.pointer (some ⟨g,0,none⟩)] w (Out3 w0 g L (4 ^ 9)):=by
  have HS:=am h
  clear h
  go_enter Tryz.func39,Tryz.ntmps39
  go_upto_region 4 with (first
    | (go_at_call 56;(with_reducible refine (some_any HS.out).mono ?_);rintro e w' ⟨A,n,q,l,rfl,h⟩;replace HS:=am h.nm;clear h)
    | (go_at_call 57;(with_reducible refine (once_any HS.out _).mono ?_);rintro e w' ⟨x,rfl,h⟩;replace HS:=am h;clear h;cases x)
    | (go_at_call 58;(with_reducible refine (bent_any HS.out).mono ?_);rintro e w' ⟨A,n,q,l,rfl,h⟩;replace HS:=am h.drop2;clear h))
  all_goals go_wp2
  all_goals
    (go_loopg [5] 3 (fun kq v5 w'=>∃ i:Int,v5=.int .i64 i∧Aside0 (0≤i∧i+kq=3)∧Aside0 (St w0 g w' (.m (.slice A n q) (4 ^ 9) l::L)))
     case atStart=>exact ⟨0,rfl,⟨by omega,by omega⟩,HS⟩
     case round =>
      clear HS
      obtain ⟨i,rfl,HI,HS⟩:=hrel
      have wi:wrap64 (i+1)=i+1:=by have:=HI.out;unfold wrap64;omega
      have dc:i<3∨¬ i<3:=by omega
      have dn:0<n∨¬ 0<n:=by omega
      rcases dc with ci|ci
      all_goals rcases dn with cn|cn
      all_goals first
        | have cib:=decide_eq_true ci
        | have cib:=decide_eq_false ci
      all_goals first
        | have cnb:=eq_true cn
        | have cnb:=eq_false cn
      all_goals have CN:=am (⟨ci,cn⟩:_∧_)
      all_goals clear ci cn
      all_goals (go_wp2_with (first
        | (go_at_call 59;(with_reducible refine (below_any HS.out (n:Int)).mono ?_);rintro e w' ⟨z,rfl,h0,h1,_,h⟩;replace HS:=am h;clear h;replace h1:=h1 (by have:=CN.out;omega);obtain ⟨ad,e,hx,_⟩:=at_T45 HS.out.mC.2 z h0 h1;cases e;replace h0:=eq_true h0;replace h1:=eq_true h1)
        | (go_at_call 59;(with_reducible refine (below_any HS.out _).mono ?_);rintro e w' ⟨z,rfl,_,_,_,h⟩;replace HS:=am h;clear h)))
      all_goals first
        | ((first|go_ret|go_ret2);exact ⟨_,_,_,l,_,rfl,HS.out⟩)
        | (go_roundg (gk - 1)
           case measure=>have:=HI.out;have:=CN.out;omega
           case rel=>exact ⟨i+1,by rw [wi],⟨by have:=HI.out;omega,by have:=HI.out;have:=CN.out;omega⟩,HS⟩))
set_option maxHeartbeats 8000000 in
set_option maxRecDepth 100000 in
theorem draw_closed (A0:Option Addr) (c0:Nat) (code:List Int) (hr0:Kd.C (Kd.int .u8) w A0 code.length code) (hc0:code.length≤c0) (hl:code.length≤1048576):Calls Tryz.prog 14 #[.slice A0 code.length c0] w fun e w'=>∃ A n q l,e=.returned (.slice A n q)∧n≤q∧Kd.C k45 w' A n l∧named l∧l.length≤4 ^ 9∧Below w.heap.size w w':=by
  obtain ⟨h,he⟩:=new_ev code hl
  obtain ⟨k,hk⟩:=he.rounds
  have HR:=am (⟨hr0,hc0,hl,hk⟩:_∧_∧_∧_)
  clear hr0 hc0 hl hk he
  go_enter Tryz.func14,Tryz.ntmps14
  go_wp2_with (first
    | (go_at_call 38;(with_reducible refine (spec_l1New.calls k A0 c0 code code 0 h w w (Below.refl _ _) HR.out.1 HR.out.2.1 HR.out.2.2.2).mono ?_);rintro e w' ⟨g,rfl,hI,hB,_⟩;have HS:=am (show St w g w' [] from ⟨⟨code,0,h,⟨HR.out.2.2.1,cur0 code⟩,hI⟩,hB,fun f hf=>by cases hf⟩);clear hI hB)
    | (go_at_call 39;(with_reducible refine (at_any HS.out).mono ?_);rintro e w' ⟨A,n,q,l,z,rfl,h⟩;replace HS:=am h;clear h))
  go_ret
  have hm:=HS.out.2.2 _ List.mem_cons_self
  exact ⟨A,n,q,l,rfl,HS.out.mC.1,HS.out.mC.2,hm.2.1,hm.2.2,HS.out.2.1⟩
end
end Go.Proofs.YthmpgocaoccnaaaGreatDoor.PFnFresh.Dw
