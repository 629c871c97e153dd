/- Drawn7: texts of this claim, in one. -/
import Derived.Test.YthmpgocaoccnaaaGreatDoorVFnFreshDrawn
set_option linter.unusedVariables false
set_option linter.unusedSimpArgs false
namespace Go.Proofs.YthmpgocaoccnaaaGreatDoor.PFnFresh.Dw
open Go.RowKit Go.Proofs.YthmpgocaoccnaaaGreatDoorW.PrintWords Go.Proofs.YthmpgocaoccnaaaGreatDoorW.PrintLast Go.Proofs.YthmpgocaoccnaaaGreatDoorW.PrintMore
section
variable {ops:Array Oper} {rest:List Oper} {o:Oper} {a:Act} {Q:Exit→Act→World→Prop} {w0 w W w':World} {g gb:Nat} {L:List Fa}
/-- what was known of the elder world, behind what has kept it. -/
theorem St.join {L1:List Fa} (h:St w0 g w L) (k:St w0 g W (.k w::L1)):St w0 g W (L1++L):=⟨k.1,k.2.1,fun f hf=>by
  rcases List.mem_append.1 hf with hf|hf
  · exact k.2.2 f (List.mem_cons_of_mem _ hf)
  · exact Fa.keep (h.2.2 f hf) (k.2.2 _ List.mem_cons_self)⟩
theorem St.k0 (h:St w0 g w L):St w0 g w [.k w]:=⟨h.1,h.2.1,fun f hf=>by rw [List.mem_singleton.1 hf];exact KeepBut.refl w g none⟩
theorem St.le (h:St w0 g w L):w0.heap.size≤w.heap.size:=h.2.1.size
/-- a store into a block that is newer than w. -/
theorem St.set (h:St w0 g W [.k w]) (hl:w0.heap.size≤w.heap.size) (hb:w.heap.size≤gb) (hg:gb≠g) (j:Nat) (u:Value):St w0 g (W.setCell ⟨gb,j,none⟩ u) [.k w]:=by
  obtain ⟨⟨b,i,q,h0,hI⟩,hB,hL⟩:=h
  refine ⟨⟨b,i,q,h0,hI.far (Ne.symm hg) u⟩,below_set hB (Nat.le_trans hl hb),fun f hf=>?_⟩
  rw [List.mem_singleton.1 hf]
  exact keep_far (hL _ (List.mem_singleton.2 rfl)) hb u
/-- a row newer than w has been written, or a block made. -/
theorem St.grown (h:St w0 g W [.k w]) (hl:w0.heap.size≤w.heap.size) {row:Option Nat} (hg:W.grownBy w' row) (hr:∀ k,row=some k→w.heap.size≤k∧k≠g):St w0 g w' [.k w]:=by
  obtain ⟨⟨b,i,q,h0,hI⟩,hB,hL⟩:=h
  have hk:KeepBut w W g none:=hL _ (List.mem_singleton.2 rfl)
  refine ⟨⟨b,i,q,h0,hI.grown hg (fun e=>(hr g e.symm).2 rfl)⟩,hB.grown hg hB.size (fun k e=>Nat.le_trans hl (hr k e).1),fun f hf=>?_⟩
  rw [List.mem_singleton.1 hf]
  exact ⟨Nat.le_trans hk.1 hg.size,fun i hi hne _=>(hg.block i (Nat.lt_of_lt_of_le hi hk.1) (fun e=>by have:=(hr i e.symm).1;omega)).trans (hk.2 i hi hne (by simp))⟩
theorem run_store_s {v:Value} {p:Tmp} {j:Nat} {y:ByteArray} {x:Operand} (ho:o.op=.store 9 (.tmp p) x) (hp:a.eval (.tmp p)=.pointer (some ⟨gb,j,none⟩)) (hx:a.eval x=.string y) (hc:W.cell? ⟨gb,j,none⟩=some v) (hf:W.frozen? ⟨gb,j,none⟩=false):(execOp a.eval o).run Tryz.prog W=.ok .skip (W.setCell ⟨gb,j,none⟩ (.string y)):=by
  obtain ⟨d,op,t,p,af,gd⟩:=o
  simp only at ho
  subst ho
  generalize a.eval=f at hp hx ⊢
  unfold execOp
  go_simp
theorem run_store_i {v:Value} {p:Tmp} {j:Nat} {y:Int} {x:Operand} (ho:o.op=.store 3 (.tmp p) x) (hp:a.eval (.tmp p)=.pointer (some ⟨gb,j,none⟩)) (hx:a.eval x=.int .i64 y) (hc:W.cell? ⟨gb,j,none⟩=some v) (hf:W.frozen? ⟨gb,j,none⟩=false):(execOp a.eval o).run Tryz.prog W=.ok .skip (W.setCell ⟨gb,j,none⟩ (.int .i64 y)):=by
  obtain ⟨d,op,t,p,af,gd⟩:=o
  simp only at ho
  subst ho
  generalize a.eval=f at hp hx ⊢
  unfold execOp
  go_simp
theorem St.two {f:Fa} {L1:List Fa} (h:St w0 g W (.k w::L1)) (hf:f.ok W g):St w0 g W (.k w::f::L1):=⟨h.1,h.2.1,fun x hx=>by
  rcases List.mem_cons.1 hx with rfl|hx
  · exact h.2.2 _ List.mem_cons_self
  rcases List.mem_cons.1 hx with rfl|hx
  · exact hf
  · exact h.2.2 x (List.mem_cons_of_mem _ hx)⟩
theorem St.top {L1:List Fa} (h:St w0 g W (.k w::L1)):St w0 g W [.k w]:=h.sub (fun f hf=>by rw [List.mem_singleton.1 hf];exact List.mem_cons_self)
theorem St.new_ge (h:St w0 g W [.k w]):w.heap.size≤W.heap.size:=(show KeepBut w W g none from h.2.2 _ (List.mem_singleton.2 rfl)).1
theorem St.box {N:Tmp} (h:St w0 g W [.k w]) (hgd:o.guard=none) (hd:o.dst=some N)
    (hrun:(execOp a.eval o).run Tryz.prog W=.ok (.value (.pointer (some ⟨W.heap.size,0,none⟩))) (W.alloc (.cells #[.int .i64 0,.int .i64 0,.int .i64 0,.int .i64 0,.int .i64 0,.string ⟨#[]⟩,.string ⟨#[]⟩] 45 (0,0))))
    (k:∀ gb w1,St w0 g w1 [.k w,.b w gb 0]→wpList Tryz.prog ops Q rest (a.put o.dst (.pointer (some ⟨gb,0,none⟩))) w1):wpList Tryz.prog ops Q (o::rest) a W:=by
  refine box_event hgd hd hrun ?_
  rintro gb rfl w1 hb hB
  exact k _ w1 ((h.below hB).two ⟨h.new_ge,Nat.ne_of_gt h.lt,0,_,_,hb,by decide,by decide⟩)
theorem box_at {x N:Int} {s t:ByteArray} (hb:W.heap[gb]?=some (.cells #[.int .i64 x,.int .i64 0,.int .i64 0,.int .i64 0,.int .i64 N,.string s,.string t] 45 (0,0))):W.cell? ⟨gb,0,none⟩=some (.int .i64 x)∧W.cell? ⟨gb,1,none⟩=some (.int .i64 0)∧W.cell? ⟨gb,2,none⟩=some (.int .i64 0)∧W.cell? ⟨gb,3,none⟩=some (.int .i64 0)∧W.cell? ⟨gb,4,none⟩=some (.int .i64 N)∧W.cell? ⟨gb,5,none⟩=some (.string s)∧W.cell? ⟨gb,6,none⟩=some (.string t):=⟨(blk_cell hb 0).trans rfl,(blk_cell hb 1).trans rfl,(blk_cell hb 2).trans rfl,(blk_cell hb 3).trans rfl,(blk_cell hb 4).trans rfl,(blk_cell hb 5).trans rfl,(blk_cell hb 6).trans rfl⟩
set_option maxHeartbeats 4000000 in
theorem run_store_n {x0 x N:Int} {s t:ByteArray} {p:Tmp} {y:Operand} (hb:W.heap[gb]?=some (.cells #[.int .i64 x0,.int .i64 0,.int .i64 0,.int .i64 0,.int .i64 N,.string s,.string t] 45 (0,0))) (ho:o.op=.store 45 (.tmp p) y) (hp:a.eval (.tmp p)=.pointer (some ⟨gb,0,none⟩)) (hx:a.eval y=.agg #[.int .i64 x,.int .i64 0,.int .i64 0,.int .i64 0,.int .i64 0,.string ⟨#[]⟩,.string ⟨#[]⟩]):(execOp a.eval o).run Tryz.prog W=.ok .skip (((((((W.setCell ⟨gb,0,none⟩ (.int .i64 x)).setCell ⟨gb,1,none⟩ (.int .i64 0)).setCell ⟨gb,2,none⟩ (.int .i64 0)).setCell ⟨gb,3,none⟩ (.int .i64 0)).setCell ⟨gb,4,none⟩ (.int .i64 0)).setCell ⟨gb,5,none⟩ (.string ⟨#[]⟩)).setCell ⟨gb,6,none⟩ (.string ⟨#[]⟩)):=by
  obtain ⟨c0,c1,c2,c3,c4,c5,c6⟩:=box_at hb
  have f0:=blk_frozen hb 0
  have f1:=blk_frozen hb 1
  have f2:=blk_frozen hb 2
  have f3:=blk_frozen hb 3
  have f4:=blk_frozen hb 4
  have f5:=blk_frozen hb 5
  have f6:=blk_frozen hb 6
  obtain ⟨d,op,t,p,af,gd⟩:=o
  simp only at ho
  subst ho
  generalize a.eval=f at hp hx ⊢
  unfold execOp
  go_simp
  first|done|rfl
set_option maxHeartbeats 4000000 in
theorem St.st_n {x0 x:Int} {p:Tmp} {y:Operand} (h:St w0 g W [.k w,.b w gb x0]) (hl:w0.heap.size≤w.heap.size) (hgd:o.guard=none) (hd:o.dst=none) (ho:o.op=.store 45 (.tmp p) y) (hp:a.eval (.tmp p)=.pointer (some ⟨gb,0,none⟩)) (hx:a.eval y=.agg #[.int .i64 x,.int .i64 0,.int .i64 0,.int .i64 0,.int .i64 0,.string ⟨#[]⟩,.string ⟨#[]⟩])
    (k:∀ w1,St w0 g w1 [.k w,.b w gb x]→wpList Tryz.prog ops Q rest a w1):wpList Tryz.prog ops Q (o::rest) a W:=by
  obtain ⟨h1,h2,N,s,t,hb,_,_⟩:=h.2.2 (.b w gb x0) (by simp)
  refine store_event hgd ho hd (run_store_n hb ho hp hx) ?_
  rintro w1 rfl
  have hk:=(((((((h.top.set hl h1 h2 0 (.int .i64 x)).set hl h1 h2 1 (.int .i64 0)).set hl h1 h2 2 (.int .i64 0)).set hl h1 h2 3 (.int .i64 0)).set hl h1 h2 4 (.int .i64 0)).set hl h1 h2 5 (.string ⟨#[]⟩)).set hl h1 h2 6 (.string ⟨#[]⟩))
  exact k _ (hk.two ⟨h1,h2,0,_,_,blk_put (blk_put (blk_put (blk_put (blk_put (blk_put (blk_put hb 0 _ rfl) 1 _ rfl) 2 _ rfl) 3 _ rfl) 4 _ rfl) 5 _ rfl) 6 _ rfl,by decide,by decide⟩)
theorem St.st_s {x0:Int} {p:Tmp} {j:Nat} {y:ByteArray} {x:Operand} (h:St w0 g W [.k w,.b w gb x0]) (hl:w0.heap.size≤w.heap.size) (hgd:o.guard=none) (hd:o.dst=none) (ho:o.op=.store 9 (.tmp p) x) (hp:a.eval (.tmp p)=.pointer (some ⟨gb,j,none⟩)) (hj:j=5∨j=6) (hx:a.eval x=.string y) (hy:drawnB y=true)
    (k:∀ w1,St w0 g w1 [.k w,.b w gb x0]→wpList Tryz.prog ops Q rest a w1):wpList Tryz.prog ops Q (o::rest) a W:=by
  obtain ⟨h1,h2,N,s,t,hb,hs,ht⟩:=h.2.2 (.b w gb x0) (by simp)
  obtain ⟨c0,c1,c2,c3,c4,c5,c6⟩:=box_at hb
  rcases hj with rfl|rfl
  · refine store_event hgd ho hd (run_store_s ho hp hx c5 (blk_frozen hb 5)) ?_
    rintro w1 rfl
    exact k _ ((h.top.set hl h1 h2 5 _).two ⟨h1,h2,N,y,t,blk_put hb 5 _ rfl,hy,ht⟩)
  · refine store_event hgd ho hd (run_store_s ho hp hx c6 (blk_frozen hb 6)) ?_
    rintro w1 rfl
    exact k _ ((h.top.set hl h1 h2 6 _).two ⟨h1,h2,N,s,y,blk_put hb 6 _ rfl,hs,hy⟩)
theorem St.st_i {x0 y:Int} {p:Tmp} {x:Operand} (h:St w0 g W [.k w,.b w gb x0]) (hl:w0.heap.size≤w.heap.size) (hgd:o.guard=none) (hd:o.dst=none) (ho:o.op=.store 3 (.tmp p) x) (hp:a.eval (.tmp p)=.pointer (some ⟨gb,4,none⟩)) (hx:a.eval x=.int .i64 y)
    (k:∀ w1,St w0 g w1 [.k w,.b w gb x0]→wpList Tryz.prog ops Q rest a w1):wpList Tryz.prog ops Q (o::rest) a W:=by
  obtain ⟨h1,h2,N,s,t,hb,hs,ht⟩:=h.2.2 (.b w gb x0) (by simp)
  obtain ⟨c0,c1,c2,c3,c4,c5,c6⟩:=box_at hb
  refine store_event hgd ho hd (run_store_i ho hp hx c4 (blk_frozen hb 4)) ?_
  rintro w1 rfl
  exact k _ ((h.top.set hl h1 h2 4 _).two ⟨h1,h2,y,s,t,blk_put hb 4 _ rfl,hs,ht⟩)
/-- the parts' row: begun, and one part more. -/
theorem St.q0 {N:Tmp} {L1:List Fa} (c:Nat) (h:St w0 g W (.k w::L1)) (hgd:o.guard=none) (hd:o.dst=some N)
    (hrun:(execOp a.eval o).run Tryz.prog W=.ok (.value (.slice (some ⟨W.heap.size,0,none⟩) 0 0)) (W.alloc (.cells #[] 26)))
    (k:∀ A n q w1,n=0→St w0 g w1 (.k w::.q w (.slice A n q) c []::L1)→wpList Tryz.prog ops Q rest (a.put o.dst (.slice A n q)) w1):wpList Tryz.prog ops Q (o::rest) a W:=by
  refine Kd.R_lit (Kd.slice 45 k45) (w0:=W) 0 26 hgd hd (xs:=[]) (inner:=[]) (ok:=fun k=>k≠g) (okp:=fun k=>k≠g) hrun (Reps.none _ _) (fun _ hk=>hk) (Nat.ne_of_gt h.lt) (Below.refl _ _) (Nat.zero_le _) (by simp) ?_
  intro v1 w1 hR _ hg hat
  obtain ⟨A,q,rfl⟩:=Kd.R_slice hR
  refine k _ _ _ w1 rfl ((h.below (below_none hg)).two ⟨hR,(by intro x hx;cases hx),fun b e=>?_⟩)
  obtain ⟨b',e',hle⟩:=hat
  rw [e'] at e
  injection e with e
  have:=h.top.new_ge
  omega
theorem St.push {v vq:Value} {c:Nat} {l:List S45} {ps:List (List S45)} {x0:Int} {s x:Operand} (h:St w0 g W [.n v c l,.k w,.q w vq c ps,.b w gb x0]) (hl:w0.heap.size≤w.heap.size) (hgd:o.guard=none) (ho:o.op=.call { callee:=.builtin .append,args:=#[s,x],argTypes:=#[93,93] }) (hs:a.eval s=vq) (hx:a.eval x=.slice (some ⟨W.heap.size,0,none⟩) 1 1) (hm:ps.length≤1000)
    (k:∀ A n q w1,n=ps.length+1→St w0 g w1 [.k w,.q w (.slice A n q) c (ps++[l]),.b w gb x0]→wpList Tryz.prog ops Q rest (a.put o.dst (.slice A n q)) w1):wpList Tryz.prog ops Q (o::rest) a (W.alloc (.cells #[v] 26)):=by
  obtain ⟨hn,hgn⟩:=h.2.2 (.n v c l) (by simp)
  obtain ⟨hq,hgq,hqb⟩:=h.2.2 (.q w vq c ps) (by simp)
  obtain ⟨h1,h2,N,s',t',hb,hds,hdt⟩:=h.2.2 (.b w gb x0) (by simp)
  have hk:St w0 g W [.k w]:=h.sub (fun f hf=>by rw [List.mem_singleton.1 hf];simp)
  have hpart:Kd.R k45 45 W 0 (fun k=>k≠g∧some k≠vq.ownBlock) v l:=by
    cases e:vq.ownBlock with
    | none=>exact Kd.R_mono hn (fun k q=>⟨q,by simp⟩)
    | some kb =>
      obtain ⟨inner,hown⟩:=Kd.R_own hq
      obtain ⟨cells,hc⟩:=own_typed hown kb e
      exact Kd.R_mono (Kd.R_types hn hc (by decide)) (fun k q=>⟨q.1,fun e=>q.2 (Option.some.inj e)⟩)
  refine Kd.R_append (Kd.slice 45 k45) (w0:=W) 0 hgd s x 93 26 (.slice none 0 0) 24 ho Tryz.underlying93 info26 rfl (by decide) (by decide) vq ps l [v] (fun k=>k≠g) (fun k=>k≠g∧some k≠vq.ownBlock) hs hx ⟨v,rfl,hpart⟩ (fun _ q=>q) (fun k q=>Nat.ne_of_gt (Nat.lt_of_lt_of_le h.lt q)) hq (Below.refl _ _) (Nat.zero_le _) (by omega) ?_
  intro v1 w1 hR _ hg hat
  obtain ⟨A,q,rfl⟩:=Kd.R_slice hR
  have hk1:=hk.grown hl hg (fun k e=>⟨hqb k e,hq.1 k e⟩)
  refine k _ _ _ w1 (by simp) ((hk1.two (f:=.b w gb x0) ⟨h1,h2,N,s',t',blk_grown hb hg (Kd.R_ne hq hb (by decide)),hds,hdt⟩).two ⟨hR,?_,fun b e=>?_⟩)
  · intro y hy
    rcases List.mem_append.1 hy with hy|hy
    · exact hgq y hy
    · rw [List.mem_singleton.1 hy];exact hgn
  · rcases hat with hat|⟨b',e',hle⟩
    · exact hqb b (hat ▸ e)
    · rw [e'] at e
      injection e with e
      have:=hk.new_ge
      omega
def arN (a:Int):Nat:=if a=3∨a=10∨a=11∨a=15∨a=16∨a=18 then 1 else if a=4∨a=5∨a=6∨a=8∨a=9∨a=13∨a=17∨a=19 then 2 else if a=7∨a=14 then 3 else 0
theorem arN_most (a:Int):arN a≤3:=by unfold arN;repeat' split <;> try omega
theorem arN_at (a:Int):spec_Arity.f 2 a=some (arN a:Int):=by
  by_cases h:a=3∨a=10∨a=11∨a=15∨a=16∨a=18∨a=4∨a=5∨a=6∨a=8∨a=9∨a=13∨a=17∨a=19∨a=7∨a=14
  · rcases h with rfl|rfl|rfl|rfl|rfl|rfl|rfl|rfl|rfl|rfl|rfl|rfl|rfl|rfl|rfl|rfl <;> rfl
  · simp only [not_or] at h
    obtain ⟨h1,h2,h3,h4,h5,h6,h7,h8,h9,h10,h11,h12,h13,h14,h15,h16⟩:=h
    simp [spec_Arity.f,spec_Arity.j0,spec_Arity.j1,arN,h1,h2,h3,h4,h5,h6,h7,h8,h9,h10,h11,h12,h13,h14,h15,h16]
theorem nmN_at (a:Int):∃ t,spec_l3Names.f 1 a=some t:=by
  simp only [spec_l3Names.f,spec_l3Names.j0]
  repeat' split
  all_goals exact ⟨_,rfl⟩
theorem arity_any (h:St w0 g w L) (x:Int):Calls Tryz.prog 79 #[.int .i64 x] w fun e w'=>e=.returned (.int .i64 (arN x))∧St w0 g w' L :=
  (spec_Arity.calls 2 x _ w (arN_at x)).mono (fun e w' ⟨he,hd⟩=>⟨he,h.below hd.below⟩)
theorem names_any (h:St w0 g w L) (x:Int):Calls Tryz.prog 80 #[.int .i64 x] w fun e w'=>∃ t:Int,e=.returned (.int .i64 t)∧St w0 g w' L:=by
  obtain ⟨t,ht⟩:=nmN_at x
  exact (spec_l3Names.calls 1 x t w ht).mono (fun e w' ⟨he,hd⟩=>⟨t,he,h.below hd.below⟩)
theorem St.drew {L:List Fa} (h:St w0 g W L):St w0 g W.drew L:=h.below (Below.refl _ _).drew
theorem St.blk {L:List Fa} {gb:Nat} {o:Obj} (h:St w0 g W L) (hf:Fa.blk gb o∈L):W.heap[gb]?=some o:=(h.2.2 _ hf).2
theorem St.cel {L:List Fa} {p:Addr} {v:Value} (h:St w0 g W L) (hf:Fa.cel p v∈L):W.cell? p=some v:=(h.2.2 _ hf).2
/-- a part of the row of parts. -/
theorem St.part {L1:List Fa} {A:Option Addr} {n q c:Nat} {ps:List (List S45)} (h:St w0 g W L1) (hq:Fa.q w (.slice A n q) c ps∈L1) (i:Nat) (hi:i<ps.length):∃ (p:Nat) (B:Option Addr) (m r:Nat),A=some ⟨p,0,none⟩∧n=ps.length∧n≤q∧St w0 g W (.cel ⟨p,i,none⟩ (.slice B m r)::.n (.slice B m r) c ps[i]::L1):=by
  obtain ⟨hR,hg,_⟩:=h.2.2 _ hq
  have hn:=(Kd.R_reads' hR).1
  have hnq:=(Kd.R_reads' hR).2.1
  obtain ⟨gp,cp,e,_,_,_,_⟩:=Kd.R_form hR (by omega)
  injection e with e1 e2 e3
  subst e1
  obtain ⟨ce,hl,hM,hc,_⟩:=Kd.R_elem hR [] (i:Int) (by omega) (by omega)
  obtain ⟨v,rfl,hv⟩:=hM
  have hx:ps.getD (i:Int).toNat []=ps[i]:=by simp [List.getD_eq_getElem?_getD,List.getElem?_eq_getElem hi]
  rw [hx] at hv
  obtain ⟨B,r,rfl⟩:=Kd.R_slice hv
  have hcell:W.cell? ⟨gp,i,none⟩=some (.slice B ps[i].length r):=by
    have:=hc 0 _ rfl
    rwa [show (Kd.slice 45 k45).sz=1 from rfl,Nat.mul_one,Nat.add_zero,Int.toNat_natCast] at this
  exact ⟨gp,B,_,r,rfl,hn,hnq,(h.cons (f:=.n (.slice B ps[i].length r) c ps[i]) ⟨Kd.R_mono hv (fun k q=>q.1),hg _ (List.getElem_mem hi)⟩).cons ⟨hR.1 gp (by simp [Value.ownBlock]),hcell⟩⟩
theorem St.lit_nn {N:Tmp} {L:List Fa} {x N':Int} {s t:ByteArray} (h:St w0 g W L) (hs:drawnB s=true) (ht:drawnB t=true) (hgd:o.guard=none) (hd:o.dst=some N)
    (hrun:(execOp a.eval o).run Tryz.prog W=.ok (.value (.slice (some ⟨W.heap.size,0,none⟩) 1 1)) (W.alloc (.cells #[.int .i64 x,.int .i64 0,.int .i64 0,.int .i64 0,.int .i64 N',.string s,.string t] 45)))
    (k1:∀ A n c w1 l,St w0 g w1 (.n (.slice A n c) 1 l::L)→wpList Tryz.prog ops Q rest (a.put o.dst (.slice A n c)) w1):wpList Tryz.prog ops Q (o::rest) a W:=by
  refine Kd.R_lit k45 (w0:=W) W.heap.size 45 hgd hd (xs:=[(⟨x,0,0,0,N',s,t⟩:S45)]) (inner:=[.int .i64 x,.int .i64 0,.int .i64 0,.int .i64 0,.int .i64 N',.string s,.string t]) (ok:=fun _=>True) (okp:=fun _=>True) hrun (Reps.c7 (k45_mkM _ _ _ _) (Reps.none _ _)) (fun _ hk=>hk) trivial (Below.refl _ _) (Nat.le_refl _) (by simp) ?_
  intro v1 w1 hR hB _ _
  obtain ⟨A',c',rfl⟩:=Kd.R_slice hR
  have hg:good 1 [(⟨x,0,0,0,N',s,t⟩:S45)]:=⟨fun y hy=>by rw [List.mem_singleton.1 hy];exact ⟨hs,ht⟩,by simp,by simp⟩
  exact k1 _ _ _ w1 _ ((h.below hB).cons ⟨fresh_ok hR h.lt,hg⟩)
theorem St.lit_step {N:Tmp} {c:Nat} {L:List Fa} {Kc:Act→World→Prop} (ps:List (List S45)) (vs:List Value) (h:St w0 g W L) (hp:Reps (fun (l:List S45) (cs:List Value)=>∃ v,cs=[v]∧Fa.n v c l∈L) 1 ps vs) (hw:Region.wanted o (yielded ops a.tmps)=true) (hd:o.dst=some N) (hm:ps.length≤1000)
    (hrun:(execOp a.eval o).run Tryz.prog W=.ok (.value (.slice (some ⟨W.heap.size,0,none⟩) ps.length ps.length)) (W.alloc (.cells vs.toArray 26)))
    (k:∀ A n e w1,St w0 g w1 (.p (.slice A n e) c ps::L)→Kc (a.put o.dst (.slice A n e)) w1):if Region.wanted o (yielded ops a.tmps)=true then Oper.wp Tryz.prog o a W Kc Q else Kc (a.put o.dst undef) W:=by
  have hgood:∀ x∈ps,good c x:=by
    intro x hx
    obtain ⟨j,hj,rfl⟩:=List.mem_iff_getElem.1 hx
    obtain ⟨v,_,hf⟩:=hp.2 j _ (List.getElem?_eq_getElem hj)
    exact (h.2.2 _ hf).2
  refine Kd.R_lit_step (Kd.slice 45 k45) (w0:=W) 0 26 hw hd (ok:=fun k=>k≠g) (okp:=fun k=>k≠g) hrun (hp.imp_ (fun l cs hl=>?_)) (fun _ hk=>hk) (Nat.ne_of_gt h.lt) (Below.refl _ _) (Nat.zero_le _) (by omega) ?_
  · obtain ⟨v,rfl,hf⟩:=hl
    exact ⟨v,rfl,(h.2.2 _ hf).1⟩
  · intro v1 w1 hR _ hg _
    obtain ⟨A',c',rfl⟩:=Kd.R_slice hR
    exact k _ _ _ w1 ((h.below (below_none hg)).cons ⟨hR,hgood⟩)
theorem run_lit {xs:List Operand} {vs:List Value} {fs:Array (Nat × Operand)} {n:Nat} (ho:o.op=.buildSlice 93 n fs) (hv:(n=1∧∃ x1 A1 n1 c1,fs=#[(0,x1)]∧a.eval x1=.slice A1 n1 c1∧vs=[.slice A1 n1 c1])∨(n=2∧∃ x1 x2 A1 n1 c1 A2 n2 c2,fs=#[(0,x1),(1,x2)]∧a.eval x1=.slice A1 n1 c1∧a.eval x2=.slice A2 n2 c2∧vs=[.slice A1 n1 c1,.slice A2 n2 c2])∨(n=3∧∃ x1 x2 x3 A1 n1 c1 A2 n2 c2 A3 n3 c3,fs=#[(0,x1),(1,x2),(2,x3)]∧a.eval x1=.slice A1 n1 c1∧a.eval x2=.slice A2 n2 c2∧a.eval x3=.slice A3 n3 c3∧vs=[.slice A1 n1 c1,.slice A2 n2 c2,.slice A3 n3 c3])):(execOp a.eval o).run Tryz.prog W=.ok (.value (.slice (some ⟨W.heap.size,0,none⟩) n n)) (W.alloc (.cells vs.toArray 26)):=by
  have hu:=Tryz.underlying93
  obtain ⟨d,op,t,p,af,gd⟩:=o
  simp only at ho
  subst ho
  rcases hv with ⟨rfl,x1,A1,n1,c1,rfl,e1,rfl⟩|⟨rfl,x1,x2,A1,n1,c1,A2,n2,c2,rfl,e1,e2,rfl⟩|⟨rfl,x1,x2,x3,A1,n1,c1,A2,n2,c2,A3,n3,c3,rfl,e1,e2,e3,rfl⟩
  all_goals generalize a.eval=f at *
  all_goals unfold execOp
  all_goals go_simp
end
end Go.Proofs.YthmpgocaoccnaaaGreatDoor.PFnFresh.Dw
set_option linter.unusedVariables false
set_option linter.unusedSimpArgs false
namespace Go.Proofs.YthmpgocaoccnaaaGreatDoor.PFnFresh.Dw
open Go.RowKit Go.Proofs.YthmpgocaoccnaaaGreatDoorW.PrintWords Go.Proofs.YthmpgocaoccnaaaGreatDoorW.PrintLast Go.Proofs.YthmpgocaoccnaaaGreatDoorW.PrintMore
def loose_T24:Bool × List (List Nat × List Nat):=(true,[([],[]),([],[]),([1],[1]),([2],[2]),([],[]),([4],[4]),([5],[5]),([3,6],[3,6]),([0,7],[0,7]),([8,8,0,1,2,3,4,5,6,7,8],[8])])
def loose_B24:List Nat:=[0,0,2,6,0,16,48,126,255,511]
theorem loose_tab24:rtab .any (opsOf Tryz.f74 24)=loose_T24:=by kernel_rfl
theorem loose_bits24:waitsOk loose_T24.2 loose_B24=true:=by kernel_rfl
def loose_T25:Bool × List (List Nat × List Nat):=(true,[([],[]),([],[]),([1],[1]),([2],[2]),([],[]),([4],[4]),([5],[5]),([],[]),([7],[7]),([8],[8]),([3,6,9],[3,6,9]),([0,10],[0,10]),([11,11,0,1,2,3,4,5,6,7,8,9,10,11],[11])])
def loose_B25:List Nat:=[0,0,2,6,0,16,48,0,128,384,1022,2047,4095]
theorem loose_tab25:rtab .any (opsOf Tryz.f74 25)=loose_T25:=by kernel_rfl
theorem loose_bits25:waitsOk loose_T25.2 loose_B25=true:=by kernel_rfl
theorem St.fin2 {w0 w W:World} {g c C:Nat} {v:Value} {l:List S45} {L L':List Fa} (h0:St w0 g w L) (h:St w0 g W (.n v c l::L')) (hk:Fa.k w∈L') (hc:c≤C):Out w0 g L C (.returned v) W:=by
  have hn:=h.2.2 _ List.mem_cons_self
  obtain ⟨A,q,rfl⟩:=Kd.R_slice hn.1
  have hK:KeepBut w W g none:=h.2.2 _ (List.mem_cons_of_mem _ hk)
  have h2:St w0 g W L:=⟨h.1,h.2.1,fun f hf=>Fa.keep (h0.2.2 f hf) hK⟩
  exact ⟨A,_,q,l,rfl,h2.cons ⟨hn.1,hn.2.more hc⟩⟩
theorem pow_l {d:Nat} (h:0<d):4 ^ (d - 1+1) * 3+1≤4 ^ (d+1):=by
  rw [Nat.sub_add_cancel h]
  exact pow_step d
def LooseC (d:Nat):Prop:=∀ (w0 w:World) (g:Nat) (L:List Fa) (deep:Int),St w0 g w L→-100000+2 * (d:Int)≤deep→deep≤1000→deep.toNat≤d→Calls Tryz.prog 74 #[.pointer (some ⟨g,0,none⟩),.int .i64 deep] w (Out w0 g L (4 ^ (d+1)))
theorem loose_go {d:Nat} (ih:LooseC d) {w0 w:World} {g:Nat} {L:List Fa} {deep:Int} {K:Ending→World→Prop} (h:St w0 g w L) (h1:-100000+2 * (d:Int)≤deep) (h2:deep≤1000) (h3:deep.toNat≤d) (k:∀ A n q l w',St w0 g w' (.n (.slice A n q) (4 ^ (d+1)) l::L)→K (.returned (.slice A n q)) w'):Calls Tryz.prog 74 #[.pointer (some ⟨g,0,none⟩),.int .i64 deep] w K :=
  (ih w0 w g L deep h h1 h2 h3).mono (fun e w' ho=>by
    obtain ⟨A,n,q,l,rfl,h⟩:=ho
    exact k A n q l w' h)
set_option maxHeartbeats 8000000 in
set_option maxRecDepth 100000 in
theorem loose_step (d:Nat) (hd:d≤8) (ih:0<d→LooseC (d - 1)):LooseC d:=by
  intro w0 w g L deep h e1 e2 e3
  have HS:=am h
  have HL:=am h.le
  have HC:=am h.k0
  have HM:=am (⟨e1,e2,e3⟩:_∧_∧_)
  clear h
  have w1:wrap64 (deep - 1)=deep - 1:=by unfold wrap64;omega
  clear e1 e2 e3
  have d0:deep≤0∨0<deep:=by omega
  go_enter Tryz.func74,Tryz.ntmps74
  go_upto_if 13 with (first
    | (go_at_call 59;(with_reducible refine (below_any HC.out 19).mono ?_);rintro e w' ⟨x,rfl,h0,h1,_,h⟩;replace HC:=am h;clear h;have wx:wrap64 (1+x)=1+x:=(by unfold wrap64;omega)))
  go_cut [5] (fun v5 wc=>∃ kx:Int,v5=.int .i64 kx∧Aside0 (deep≤0→kx=1∨kx=2∨kx=12)∧Aside0 (St w0 g wc [.k w]))
  case first =>
    rcases d0 with dp|dp
    all_goals first
      | (have d1:decide (deep≤0)=true:=decide_eq_true dp)
      | (have d1:decide (deep≤0)=false:=decide_eq_false (by omega))
    all_goals have DP:=am dp
    all_goals clear dp
    all_goals go_wp2_with (first
      | ((with_reducible refine gate_lit (t:=53) (n:=4) rfl ?_);apply St.lit_i [1,2,12,1] HC.out;(case hd=>rfl);(case hgd=>rfl);(case hm=>decide);(case hrun=>first|(go_simp;done)|(go_simp;rfl));intro A n q w' h;replace HC:=am h;clear h)
      | (go_at_call 76;(with_reducible refine (pickInt_any HC.out ?s1 ?s2).mono ?_);(case s1=>decide);(case s2=>decide);rintro e w' ⟨x,rfl,hx,h⟩;replace HC:=am h;clear h;have HX:=am hx;clear hx))
    all_goals go_meet
    all_goals first
      | exact ⟨_,rfl,⟨fun _=>by have:=HX.out;simp at this;omega⟩,HC⟩
      | exact ⟨_,rfl,⟨fun q=>absurd q (by have:=DP.out;omega)⟩,HC⟩
  case rest =>
  clear HC d0
  obtain ⟨kx,rfl,HK,HC⟩:=hcut
  go_upto_if 21 with (first
    | ((with_reducible refine gate_dst (N:=6) rfl ?_);apply St.box HC.out;(case hd=>rfl);(case hgd=>rfl);(case hrun=>first|(go_simp;done)|(go_simp;rfl));intro gb w' h;replace HC:=am h;clear h)
    | ((with_reducible refine gate_store (t:=45) (p:=6) rfl ?_);apply St.st_n HC.out HL.out;(case hgd=>rfl);(case hd=>rfl);(case ho=>rfl);(case hp=>rfl);(case hx=>rfl);intro w' h;replace HC:=am h;clear h)
    | (go_at_call 80;(with_reducible refine (names_any HC.out _).mono ?_);rintro e w' ⟨x,rfl,h⟩;replace HC:=am h;clear h))
  go_cut [] (fun wc=>Aside0 (St w0 g wc [.k w,.b w gb kx]))
  case first =>
    go_wp2_with (first
      | ((with_reducible refine gate_lit (t:=42) (n:=3) rfl ?_);(first|(apply St.lit_s [⟨#[120]⟩,⟨#[121]⟩,⟨#[102]⟩] HC.out (by unfold drawnL;decide);(case hd=>rfl);(case hgd=>rfl);(case hm=>decide);(case hrun=>first|(go_simp;done)|(go_simp;rfl)))|(apply St.lit_s [⟨#[120]⟩,⟨#[121]⟩,⟨#[122]⟩] HC.out (by unfold drawnL;decide);(case hd=>rfl);(case hgd=>rfl);(case hm=>decide);(case hrun=>first|(go_simp;done)|(go_simp;rfl))));intro A n q w' h;replace HC:=am h;clear h)
      | (go_at_call 77;(with_reducible refine (pick_any HC.out ?s1 ?s2).mono ?_);(case s1=>decide);(case s2=>decide);rintro e w' ⟨x,rfl,hd,h⟩;replace HC:=am h;clear h;have HX:=am hd;clear hd)
      | ((with_reducible refine gate_store (t:=9) (p:=25) rfl ?_);apply St.st_s HC.out HL.out;(case hgd=>rfl);(case hd=>rfl);(case ho=>rfl);(case hp=>rfl);(case hj=>exact Or.inl rfl);(case hx=>rfl);(case hy=>exact HX.out);intro w' h;replace HC:=am h;clear h))
    all_goals go_meet
    all_goals exact HC
  case rest =>
  clear HC
  have HC:=hcut
  clear hcut
  go_upto_if 28 with (first
    | (go_at_call 80;(with_reducible refine (names_any HC.out _).mono ?_);rintro e w' ⟨x,rfl,h⟩;replace HC:=am h;clear h))
  go_cut [] (fun wc=>Aside0 (St w0 g wc [.k w,.b w gb kx]))
  case first =>
    go_wp2_with (first
      | ((with_reducible refine gate_lit (t:=42) (n:=3) rfl ?_);(first|(apply St.lit_s [⟨#[120]⟩,⟨#[121]⟩,⟨#[102]⟩] HC.out (by unfold drawnL;decide);(case hd=>rfl);(case hgd=>rfl);(case hm=>decide);(case hrun=>first|(go_simp;done)|(go_simp;rfl)))|(apply St.lit_s [⟨#[120]⟩,⟨#[121]⟩,⟨#[122]⟩] HC.out (by unfold drawnL;decide);(case hd=>rfl);(case hgd=>rfl);(case hm=>decide);(case hrun=>first|(go_simp;done)|(go_simp;rfl))));intro A n q w' h;replace HC:=am h;clear h)
      | (go_at_call 77;(with_reducible refine (pick_any HC.out ?s1 ?s2).mono ?_);(case s1=>decide);(case s2=>decide);rintro e w' ⟨x,rfl,hd,h⟩;replace HC:=am h;clear h;have HX:=am hd;clear hd)
      | ((with_reducible refine gate_store (t:=9) (p:=32) rfl ?_);apply St.st_s HC.out HL.out;(case hgd=>rfl);(case hd=>rfl);(case ho=>rfl);(case hp=>rfl);(case hj=>exact Or.inr rfl);(case hx=>rfl);(case hy=>exact HX.out);intro w' h;replace HC:=am h;clear h))
    all_goals go_meet
    all_goals exact HC
  case rest =>
  clear HC
  have HC:=hcut
  clear hcut
  go_upto_if 34 with (first
    | (go_at_call 80;(with_reducible refine (names_any HC.out _).mono ?_);rintro e w' ⟨x,rfl,h⟩;replace HC:=am h;clear h))
  go_cut [] (fun wc=>Aside0 (St w0 g wc [.k w,.b w gb kx]))
  case first =>
    go_wp2_with (first
      | (go_at_call 59;(with_reducible refine (below_any HC.out _).mono ?_);rintro e w' ⟨x,rfl,_,_,_,h⟩;replace HC:=am h;clear h)
      | ((with_reducible refine gate_store (t:=3) (p:=37) rfl ?_);apply St.st_i HC.out HL.out;(case hgd=>rfl);(case hd=>rfl);(case ho=>rfl);(case hp=>rfl);(case hx=>rfl);intro w' h;replace HC:=am h;clear h))
    all_goals go_meet
    all_goals exact HC
  case rest =>
  clear HC
  have HC:=hcut
  clear hcut
  go_upto_if 39 with (first
    | (go_at_call 80;(with_reducible refine (names_any HC.out _).mono ?_);rintro e w' ⟨x,rfl,h⟩;replace HC:=am h;clear h))
  go_cut [] (fun wc=>Aside0 (St w0 g wc [.k w,.b w gb kx]))
  case first =>
    go_wp2_with (first
      | (go_at_call 59;(with_reducible refine (below_any HC.out _).mono ?_);rintro e w' ⟨x,rfl,_,_,_,h⟩;replace HC:=am h;clear h)
      | ((with_reducible refine gate_store (t:=3) (p:=42) rfl ?_);apply St.st_i HC.out HL.out;(case hgd=>rfl);(case hd=>rfl);(case ho=>rfl);(case hp=>rfl);(case hx=>rfl);intro w' h;replace HC:=am h;clear h))
    all_goals go_meet
    all_goals exact HC
  case rest =>
  clear HC
  have HC:=hcut
  clear hcut
  go_wp2_with (first
    | ((with_reducible refine gate_lit (t:=93) (n:=0) rfl ?_);apply St.q0 (4 ^ (d - 1+1)) HC.out;(case hd=>rfl);(case hgd=>rfl);(case hrun=>first|(go_simp;done)|(go_simp;rfl));intro A n q w' hn h;replace HC:=am h;have HQ:=am hn;clear h hn))
  go_loopg [7,8] (arN kx) (fun kq v7 v8 w'=>∃ (A:Option Addr) (n q:Nat) (ps:List (List S45)),v7=.slice A n q∧v8=.int .i64 (ps.length:Int)∧Aside0 (n=ps.length∧ps.length+kq=arN kx)∧Aside0 (St w0 g w' [.k w,.q w (.slice A n q) (4 ^ (d - 1+1)) ps,.b w gb kx]))
  case atStart=>exact ⟨_,_,_,[],rfl,rfl,⟨HQ.out,by simp⟩,HC⟩
  case round =>
    clear HC HQ
    obtain ⟨A,n,q,ps,rfl,rfl,HI,HC⟩:=hrel
    have HA:=am (arN_most kx)
    have wi:wrap64 ((ps.length:Int)+1)=ps.length+1:=by have:=HI.out;have:=HA.out;unfold wrap64;omega
    by_cases ci:ps.length<arN kx
    · have x1:(ps.length<arN kx)=True:=eq_true ci
      have dp:0<deep:=by
        by_cases q:deep≤0
        · rcases HK.out q with rfl|rfl|rfl <;> simp [arN] at ci
        · omega
      have DP:=am (⟨dp,ci⟩:_∧_)
      clear dp ci
      go_wp2_with (first
        | (go_at_call 79;(with_reducible refine (arity_any HC.out _).mono ?_);rintro e w' ⟨rfl,h⟩;replace HC:=am h;clear h)
        | (go_at_call 59;(with_reducible refine (below_any HC.out 2).mono ?_);rintro e w' ⟨x,rfl,h0,h2,_,h⟩;replace HC:=am h;clear h;have wx:wrap64 (deep - 1 - x)=deep - 1 - x:=(by have:=HM.out;unfold wrap64;omega);have HX:=am (⟨h0,h2 (by omega)⟩:_∧_);clear h0 h2)
        | (go_at_call 74;apply loose_go (ih (by have:=HM.out;have:=DP.out;omega)) HC.out;(case h1=>have:=HM.out;have:=HX.out;have:=DP.out;omega);(case h2=>have:=HM.out;have:=HX.out;omega);(case h3=>have:=HM.out;have:=HX.out;have:=DP.out;omega);intro A n q l w' h;replace HC:=am h;clear h)
        | ((with_reducible refine gate_builtin (b:=.append) rfl ?_);at_builtin;apply St.push HC.out HL.out;(case hgd=>rfl);(case ho=>rfl);(case hs=>rfl);(case hx=>rfl);(case hm=>have:=HI.out;have:=HA.out;omega);intro A n q w' hn h;replace HC:=am h;have HQ:=am hn;clear h hn))
      go_roundg (gk - 1)
      case measure=>have:=HI.out;have:=DP.out;omega
      case rel=>exact ⟨_,_,_,ps++[l],rfl,by rw [wi];simp,⟨by rw [HQ.out];simp,by have:=HI.out;have:=DP.out;simp;omega⟩,HC⟩
    · have x1:(ps.length<arN kx)=False:=eq_false ci
      have hps:ps.length=arN kx:=by have:=HI.out;omega
      have HE:=am (⟨HI.out.1,hps⟩:_∧_)
      clear HI hps wi ci
      obtain ⟨g1,g2,N,s,t,hb,hs,ht⟩:=HC.out.2.2 (.b w gb kx) (by simp)
      replace HC:=am (HC.out.cons (f:=.blk gb (.cells #[.int .i64 kx,.int .i64 0,.int .i64 0,.int .i64 0,.int .i64 N,.string s,.string t] 45 (0,0))) ⟨g2,hb⟩)
      have HD:=am (⟨hs,ht⟩:_∧_)
      clear g1 g2 hb hs ht
      rcases ps with _|⟨l1,_|⟨l2,_|⟨l3,_|⟨l4,r⟩⟩⟩⟩
      rotate_left 4
      · exact absurd HE.out.2 (by have:=HA.out;simp;omega)
      all_goals obtain ⟨hn,hk⟩:=HE.out
      all_goals simp only [List.length_cons,List.length_nil] at hn hk
      all_goals try simp only [Nat.zero_add,Nat.reduceAdd] at hn hk
      all_goals subst hn
      all_goals have hk':=hk.symm
      all_goals clear hk HE
      all_goals go_upto_region 18 with (first
        | (go_at_call 79;(with_reducible refine (arity_any HC.out _).mono ?_);rintro e w' ⟨rfl,h⟩;replace HC:=am h;clear h))
      · obtain ⟨c0,c1,c2,c3,c4,c5,c6⟩:=box_at (HC.out.blk List.mem_cons_self)
        go_wp2_with (first|((with_reducible refine gate_lit (t:=26) rfl ?_);apply St.lit_nn HC.out HD.out.1 HD.out.2;(case hd=>rfl);(case hgd=>rfl);(case hrun=>first|(go_simp;done)|(go_simp;rfl));intro A' n' q' w' l h;replace HC:=am h;clear h))
        go_ret
        exact HS.out.fin2 HC.out (by repeat (first|exact List.mem_cons_self|apply List.mem_cons_of_mem)) (pow_one _)
      · obtain ⟨p,B1,m1,r1,rfl,-,-,h1⟩:=HC.out.part (w:=w) (A:=A) (n:=1) (q:=q) (c:=4 ^ (d - 1+1)) (ps:=[l1]) (by repeat (first|exact List.mem_cons_self|apply List.mem_cons_of_mem)) 0 (by simp)
        replace HC:=am h1
        clear h1
        go_upto_region 22 with fail
        refine start_ (n:=7) (S:=fun w'=>w'.heap[gb]?=some (.cells #[.int .i64 kx,.int .i64 0,.int .i64 0,.int .i64 0,.int .i64 N,.string s,.string t] 45 (0,0))∧w'.cell? ⟨p,0,none⟩=some (.slice B1 m1 r1)) (ds:=[]) #[false,false,false,false,false,false,false] (by kernel_rfl) rfl rfl ⟨HC.out.drew.blk (by repeat (first|exact List.mem_cons_self|apply List.mem_cons_of_mem)),HC.out.drew.cel (p:=⟨p,0,none⟩) (v:=.slice B1 m1 r1) (by repeat (first|exact List.mem_cons_self|apply List.mem_cons_of_mem))⟩ (fun hHeld=>?_)
        replace HC:=am HC.out.drew
        generalize w'.drew=w8 at HC hHeld ⊢
        refine pure_ (i:=1) (N:=some 69) (v:=?_) (a':=?_) #[false,true,false,false,false,false,false] rfl rfl (by kernel_rfl) (fun _ _ _ h=>h) (Or.inl ⟨by rfl,?_⟩) ?_ ?_
        rotate_left
        · intro w'
          go_simp
          with_reducible rfl
        rotate_left
        · simp only [Act.put,List.setIfInBounds_toArray,List.set_cons_zero,List.set_cons_succ,i64_w,i32_w]
          rfl
        refine pure_ (i:=2) (N:=some 70) (v:=?_) (a':=?_) #[false,true,true,false,false,false,false] rfl rfl (by kernel_rfl) (fun _ _ _ h=>h) (Or.inl ⟨by rfl,?_⟩) ?_ ?_
        rotate_left
        · intro w'
          go_simp
          with_reducible rfl
        rotate_left
        · simp only [Act.put,List.setIfInBounds_toArray,List.set_cons_zero,List.set_cons_succ,i64_w,i32_w]
          rfl
        refine take_ (i:=0) (N:=some 68) (v:=?_) (a':=?_) #[true,true,true,false,false,false,false] rfl rfl (by kernel_rfl) (fun _ _ _ h=>h) (Or.inl ⟨by rfl,?_⟩) hHeld ?_ ?_
        rotate_left
        · rintro w' ⟨sb,x1⟩
          obtain ⟨s0,s1,s2,s3,s4,s5,s6⟩:=box_at sb
          go_simp
          with_reducible rfl
        rotate_left
        · simp only [Act.put,List.setIfInBounds_toArray,List.set_cons_zero,List.set_cons_succ,i64_w,i32_w]
          rfl
        refine take_ (i:=3) (N:=some 71) (v:=?_) (a':=?_) #[true,true,true,true,false,false,false] rfl rfl (by kernel_rfl) (fun _ _ _ h=>h) (Or.inl ⟨by rfl,?_⟩) hHeld ?_ ?_
        rotate_left
        · rintro w' ⟨sb,x1⟩
          obtain ⟨s0,s1,s2,s3,s4,s5,s6⟩:=box_at sb
          go_simp
          with_reducible rfl
        rotate_left
        · simp only [Act.put,List.setIfInBounds_toArray,List.set_cons_zero,List.set_cons_succ,i64_w,i32_w]
          rfl
        refine one_ (i:=4) (N:=some 72) #[true,true,true,true,true,false,false] rfl rfl (by kernel_rfl) (by decide) (fun K hK=>?_)
        apply St.lit_step [l1] [.slice B1 m1 r1] HC.out (Reps.p1 ⟨_,rfl,(by repeat (first|exact List.mem_cons_self|apply List.mem_cons_of_mem))⟩)
        case hd=>rfl
        case hw=>rfl
        case hm=>simp
        case hrun=>exact run_lit (xs:=[]) rfl (Or.inl ⟨rfl,_,_,_,_,rfl,rfl,rfl⟩)
        intro A' n' q' w9 h
        refine hK.out _ _ ⟨h.blk (by repeat (first|exact List.mem_cons_self|apply List.mem_cons_of_mem)),h.cel (p:=⟨p,0,none⟩) (v:=.slice B1 m1 r1) (by repeat (first|exact List.mem_cons_self|apply List.mem_cons_of_mem))⟩ (fun hHeld=>?_)
        clear hK K
        replace HC:=am h
        clear h
        refine norm_ (a':=?_) ?_ ?_
        rotate_left
        · show Act.put _ (some 72) _=_
          simp only [Act.put,List.setIfInBounds_toArray,List.set_cons_zero,List.set_cons_succ,i64_w,i32_w]
          rfl
        refine one_ (i:=5) (N:=some 73) #[true,true,true,true,true,true,false] rfl rfl (by kernel_rfl) (by decide) (fun K hK=>?_)
        refine goes_ Tryz.func89 (by kernel_rfl) rfl #[.agg #[.int .i64 kx,.int .i64 0,.int .i64 0,.int .i64 0,.int .i64 N,.string s,.string t],.slice A' n' q'] (by rfl) rfl rfl (by (try simp only [List.map_toArray,List.map_cons,List.map_nil]);first|done|rfl) ?_
        refine (make_any HC.out (pow_most _ (by omega)) (by simp) kx 0 0 0 N s t HD.out.1 HD.out.2).mono ?_
        rintro e w10 ⟨A2,n2,q2,l9,rfl,h⟩
        refine ⟨_,rfl,?_⟩
        refine hK.out _ _ ⟨h.blk (by repeat (first|exact List.mem_cons_self|apply List.mem_cons_of_mem)),h.cel (p:=⟨p,0,none⟩) (v:=.slice B1 m1 r1) (by repeat (first|exact List.mem_cons_self|apply List.mem_cons_of_mem))⟩ (fun hHeld=>?_)
        clear hK K
        replace HC:=am h
        clear h
        refine norm_ (a':=?_) ?_ ?_
        rotate_left
        · show Act.put _ (some 73) _=_
          simp only [Act.put,List.setIfInBounds_toArray,List.set_cons_zero,List.set_cons_succ,i64_w,i32_w]
          rfl
        refine pure_ (i:=6) (N:=some 4) (v:=?_) (a':=?_) #[true,true,true,true,true,true,true] rfl rfl (by kernel_rfl) (fun _ _ _ h=>h) (Or.inl ⟨by rfl,?_⟩) ?_ ?_
        rotate_left
        · intro w'
          go_simp
          with_reducible rfl
        rotate_left
        · simp only [Act.put,List.setIfInBounds_toArray,List.set_cons_zero,List.set_cons_succ,i64_w,i32_w]
          rfl
        refine done_ (by kernel_rfl) ?_
        try go_wp2
        go_ret
        exact HS.out.fin2 HC.out (by repeat (first|exact List.mem_cons_self|apply List.mem_cons_of_mem)) (pow_l (by
          by_cases q:deep≤0
          · rcases HK.out q with rfl|rfl|rfl <;> simp [arN] at hk'
          · have:=HM.out;omega))
      · obtain ⟨p,B1,m1,r1,rfl,-,-,h1⟩:=HC.out.part (w:=w) (A:=A) (n:=2) (q:=q) (c:=4 ^ (d - 1+1)) (ps:=[l1,l2]) (by repeat (first|exact List.mem_cons_self|apply List.mem_cons_of_mem)) 0 (by simp)
        obtain ⟨p2,B2,m2,r2,e2,-,-,h2⟩:=h1.part (w:=w) (A:=some ⟨p,0,none⟩) (n:=2) (q:=q) (c:=4 ^ (d - 1+1)) (ps:=[l1,l2]) (by repeat (first|exact List.mem_cons_self|apply List.mem_cons_of_mem)) 1 (by simp)
        cases e2
        replace HC:=am h2
        clear h1 h2
        go_upto_region 24 with fail
        refine start_ (n:=10) (S:=fun w'=>w'.heap[gb]?=some (.cells #[.int .i64 kx,.int .i64 0,.int .i64 0,.int .i64 0,.int .i64 N,.string s,.string t] 45 (0,0))∧w'.cell? ⟨p,0,none⟩=some (.slice B1 m1 r1)∧w'.cell? ⟨p,1,none⟩=some (.slice B2 m2 r2)) (ds:=[]) #[false,false,false,false,false,false,false,false,false,false] (by kernel_rfl) rfl rfl ⟨HC.out.drew.blk (by repeat (first|exact List.mem_cons_self|apply List.mem_cons_of_mem)),HC.out.drew.cel (p:=⟨p,0,none⟩) (v:=.slice B1 m1 r1) (by repeat (first|exact List.mem_cons_self|apply List.mem_cons_of_mem)),HC.out.drew.cel (p:=⟨p,1,none⟩) (v:=.slice B2 m2 r2) (by repeat (first|exact List.mem_cons_self|apply List.mem_cons_of_mem))⟩ (fun hHeld=>?_);refine with_tabW loose_tab24 loose_bits24 (fun HT_ HW_=>?_)
        replace HC:=am HC.out.drew
        generalize w'.drew=w8 at HC hHeld ⊢
        refine pure_ (i:=1) (N:=some 77) (v:=?_) (a':=?_) #[false,true,false,false,false,false,false,false,false,false] rfl rfl (any_of HT_.out (by kernel_rfl)) (fun _ _ _ h=>h) (Or.inl ⟨by rfl,?_⟩) ?_ ?_
        rotate_left
        · intro w'
          go_simp
          with_reducible rfl
        rotate_left
        · simp only [Act.put,List.setIfInBounds_toArray,List.set_cons_zero,List.set_cons_succ,i64_w,i32_w]
          rfl
        refine pure_ (i:=2) (N:=some 78) (v:=?_) (a':=?_) #[false,true,true,false,false,false,false,false,false,false] rfl rfl (any_of HT_.out (by kernel_rfl)) (fun _ _ _ h=>h) (Or.inl ⟨by rfl,?_⟩) ?_ ?_
        rotate_left
        · intro w'
          go_simp
          with_reducible rfl
        rotate_left
        · simp only [Act.put,List.setIfInBounds_toArray,List.set_cons_zero,List.set_cons_succ,i64_w,i32_w]
          rfl
        refine pure_ (i:=4) (N:=some 80) (v:=?_) (a':=?_) #[false,true,true,false,true,false,false,false,false,false] rfl rfl (any_of HT_.out (by kernel_rfl)) (fun _ _ _ h=>h) (Or.inl ⟨by rfl,?_⟩) ?_ ?_
        rotate_left
        · intro w'
          go_simp
          with_reducible rfl
        rotate_left
        · simp only [Act.put,List.setIfInBounds_toArray,List.set_cons_zero,List.set_cons_succ,i64_w,i32_w]
          rfl
        refine pure_ (i:=5) (N:=some 81) (v:=?_) (a':=?_) #[false,true,true,false,true,true,false,false,false,false] rfl rfl (any_of HT_.out (by kernel_rfl)) (fun _ _ _ h=>h) (Or.inl ⟨by rfl,?_⟩) ?_ ?_
        rotate_left
        · intro w'
          go_simp
          with_reducible rfl
        rotate_left
        · simp only [Act.put,List.setIfInBounds_toArray,List.set_cons_zero,List.set_cons_succ,i64_w,i32_w]
          rfl
        refine take_ (i:=0) (N:=some 76) (v:=?_) (a':=?_) #[true,true,true,false,true,true,false,false,false,false] rfl rfl (take_ofW HT_.out HW_.out (by kernel_rfl)) (fun _ _ _ h=>h) (Or.inl ⟨by rfl,?_⟩) hHeld ?_ ?_
        rotate_left
        · rintro w' ⟨sb,x1,x2⟩
          obtain ⟨s0,s1,s2,s3,s4,s5,s6⟩:=box_at sb
          go_simp
          with_reducible rfl
        rotate_left
        · simp only [Act.put,List.setIfInBounds_toArray,List.set_cons_zero,List.set_cons_succ,i64_w,i32_w]
          rfl
        refine take_ (i:=3) (N:=some 79) (v:=?_) (a':=?_) #[true,true,true,true,true,true,false,false,false,false] rfl rfl (take_ofW HT_.out HW_.out (by kernel_rfl)) (fun _ _ _ h=>h) (Or.inl ⟨by rfl,?_⟩) hHeld ?_ ?_
        rotate_left
        · rintro w' ⟨sb,x1,x2⟩
          obtain ⟨s0,s1,s2,s3,s4,s5,s6⟩:=box_at sb
          go_simp
          with_reducible rfl
        rotate_left
        · simp only [Act.put,List.setIfInBounds_toArray,List.set_cons_zero,List.set_cons_succ,i64_w,i32_w]
          rfl
        refine take_ (i:=6) (N:=some 82) (v:=?_) (a':=?_) #[true,true,true,true,true,true,true,false,false,false] rfl rfl (take_ofW HT_.out HW_.out (by kernel_rfl)) (fun _ _ _ h=>h) (Or.inl ⟨by rfl,?_⟩) hHeld ?_ ?_
        rotate_left
        · rintro w' ⟨sb,x1,x2⟩
          obtain ⟨s0,s1,s2,s3,s4,s5,s6⟩:=box_at sb
          go_simp
          with_reducible rfl
        rotate_left
        · simp only [Act.put,List.setIfInBounds_toArray,List.set_cons_zero,List.set_cons_succ,i64_w,i32_w]
          rfl
        refine one_ (i:=7) (N:=some 83) #[true,true,true,true,true,true,true,true,false,false] rfl rfl (one_of HT_.out (by kernel_rfl)) (by decide) (fun K hK=>?_)
        apply St.lit_step [l1,l2] [.slice B1 m1 r1,.slice B2 m2 r2] HC.out (Reps.p2 ⟨_,rfl,(by repeat (first|exact List.mem_cons_self|apply List.mem_cons_of_mem))⟩ ⟨_,rfl,(by repeat (first|exact List.mem_cons_self|apply List.mem_cons_of_mem))⟩)
        case hd=>rfl
        case hw=>rfl
        case hm=>simp
        case hrun=>exact run_lit (xs:=[]) rfl (Or.inr (Or.inl ⟨rfl,_,_,_,_,_,_,_,_,rfl,rfl,rfl,rfl⟩))
        intro A' n' q' w9 h
        refine hK.out _ _ ⟨h.blk (by repeat (first|exact List.mem_cons_self|apply List.mem_cons_of_mem)),h.cel (p:=⟨p,0,none⟩) (v:=.slice B1 m1 r1) (by repeat (first|exact List.mem_cons_self|apply List.mem_cons_of_mem)),h.cel (p:=⟨p,1,none⟩) (v:=.slice B2 m2 r2) (by repeat (first|exact List.mem_cons_self|apply List.mem_cons_of_mem))⟩ (fun hHeld=>?_)
        clear hK K
        replace HC:=am h
        clear h
        refine norm_ (a':=?_) ?_ ?_
        rotate_left
        · show Act.put _ (some 83) _=_
          simp only [Act.put,List.setIfInBounds_toArray,List.set_cons_zero,List.set_cons_succ,i64_w,i32_w]
          rfl
        refine one_ (i:=8) (N:=some 84) #[true,true,true,true,true,true,true,true,true,false] rfl rfl (one_of HT_.out (by kernel_rfl)) (by decide) (fun K hK=>?_)
        refine goes_ Tryz.func89 (by kernel_rfl) rfl #[.agg #[.int .i64 kx,.int .i64 0,.int .i64 0,.int .i64 0,.int .i64 N,.string s,.string t],.slice A' n' q'] (by rfl) rfl rfl (by (try simp only [List.map_toArray,List.map_cons,List.map_nil]);first|done|rfl) ?_
        refine (make_any HC.out (pow_most _ (by omega)) (by simp) kx 0 0 0 N s t HD.out.1 HD.out.2).mono ?_
        rintro e w10 ⟨A2,n2,q2,l9,rfl,h⟩
        refine ⟨_,rfl,?_⟩
        refine hK.out _ _ ⟨h.blk (by repeat (first|exact List.mem_cons_self|apply List.mem_cons_of_mem)),h.cel (p:=⟨p,0,none⟩) (v:=.slice B1 m1 r1) (by repeat (first|exact List.mem_cons_self|apply List.mem_cons_of_mem)),h.cel (p:=⟨p,1,none⟩) (v:=.slice B2 m2 r2) (by repeat (first|exact List.mem_cons_self|apply List.mem_cons_of_mem))⟩ (fun hHeld=>?_)
        clear hK K
        replace HC:=am h
        clear h
        refine norm_ (a':=?_) ?_ ?_
        rotate_left
        · show Act.put _ (some 84) _=_
          simp only [Act.put,List.setIfInBounds_toArray,List.set_cons_zero,List.set_cons_succ,i64_w,i32_w]
          rfl
        refine pure_ (i:=9) (N:=some 4) (v:=?_) (a':=?_) #[true,true,true,true,true,true,true,true,true,true] rfl rfl (any_of HT_.out (by kernel_rfl)) (fun _ _ _ h=>h) (Or.inl ⟨by rfl,?_⟩) ?_ ?_
        rotate_left
        · intro w'
          go_simp
          with_reducible rfl
        rotate_left
        · simp only [Act.put,List.setIfInBounds_toArray,List.set_cons_zero,List.set_cons_succ,i64_w,i32_w]
          rfl
        refine done_ (done_of HT_.out (by kernel_rfl)) ?_
        try go_wp2
        go_ret
        exact HS.out.fin2 HC.out (by repeat (first|exact List.mem_cons_self|apply List.mem_cons_of_mem)) (pow_l (by
          by_cases q:deep≤0
          · rcases HK.out q with rfl|rfl|rfl <;> simp [arN] at hk'
          · have:=HM.out;omega))
      · obtain ⟨p,B1,m1,r1,rfl,-,-,h1⟩:=HC.out.part (w:=w) (A:=A) (n:=3) (q:=q) (c:=4 ^ (d - 1+1)) (ps:=[l1,l2,l3]) (by repeat (first|exact List.mem_cons_self|apply List.mem_cons_of_mem)) 0 (by simp)
        obtain ⟨p2,B2,m2,r2,e2,-,-,h2⟩:=h1.part (w:=w) (A:=some ⟨p,0,none⟩) (n:=3) (q:=q) (c:=4 ^ (d - 1+1)) (ps:=[l1,l2,l3]) (by repeat (first|exact List.mem_cons_self|apply List.mem_cons_of_mem)) 1 (by simp)
        cases e2
        obtain ⟨p3,B3,m3,r3,e3,-,-,h3⟩:=h2.part (w:=w) (A:=some ⟨p,0,none⟩) (n:=3) (q:=q) (c:=4 ^ (d - 1+1)) (ps:=[l1,l2,l3]) (by repeat (first|exact List.mem_cons_self|apply List.mem_cons_of_mem)) 2 (by simp)
        cases e3
        replace HC:=am h3
        clear h1 h2 h3
        go_upto_region 25 with fail
        refine start_ (n:=13) (S:=fun w'=>w'.heap[gb]?=some (.cells #[.int .i64 kx,.int .i64 0,.int .i64 0,.int .i64 0,.int .i64 N,.string s,.string t] 45 (0,0))∧w'.cell? ⟨p,0,none⟩=some (.slice B1 m1 r1)∧w'.cell? ⟨p,1,none⟩=some (.slice B2 m2 r2)∧w'.cell? ⟨p,2,none⟩=some (.slice B3 m3 r3)) (ds:=[]) #[false,false,false,false,false,false,false,false,false,false,false,false,false] (by kernel_rfl) rfl rfl ⟨HC.out.drew.blk (by repeat (first|exact List.mem_cons_self|apply List.mem_cons_of_mem)),HC.out.drew.cel (p:=⟨p,0,none⟩) (v:=.slice B1 m1 r1) (by repeat (first|exact List.mem_cons_self|apply List.mem_cons_of_mem)),HC.out.drew.cel (p:=⟨p,1,none⟩) (v:=.slice B2 m2 r2) (by repeat (first|exact List.mem_cons_self|apply List.mem_cons_of_mem)),HC.out.drew.cel (p:=⟨p,2,none⟩) (v:=.slice B3 m3 r3) (by repeat (first|exact List.mem_cons_self|apply List.mem_cons_of_mem))⟩ (fun hHeld=>?_);refine with_tabW loose_tab25 loose_bits25 (fun HT_ HW_=>?_)
        replace HC:=am HC.out.drew
        generalize w'.drew=w8 at HC hHeld ⊢
        refine pure_ (i:=1) (N:=some 86) (v:=?_) (a':=?_) #[false,true,false,false,false,false,false,false,false,false,false,false,false] rfl rfl (any_of HT_.out (by kernel_rfl)) (fun _ _ _ h=>h) (Or.inl ⟨by rfl,?_⟩) ?_ ?_
        rotate_left
        · intro w'
          go_simp
          with_reducible rfl
        rotate_left
        · simp only [Act.put,List.setIfInBounds_toArray,List.set_cons_zero,List.set_cons_succ,i64_w,i32_w]
          rfl
        refine pure_ (i:=2) (N:=some 87) (v:=?_) (a':=?_) #[false,true,true,false,false,false,false,false,false,false,false,false,false] rfl rfl (any_of HT_.out (by kernel_rfl)) (fun _ _ _ h=>h) (Or.inl ⟨by rfl,?_⟩) ?_ ?_
        rotate_left
        · intro w'
          go_simp
          with_reducible rfl
        rotate_left
        · simp only [Act.put,List.setIfInBounds_toArray,List.set_cons_zero,List.set_cons_succ,i64_w,i32_w]
          rfl
        refine pure_ (i:=4) (N:=some 89) (v:=?_) (a':=?_) #[false,true,true,false,true,false,false,false,false,false,false,false,false] rfl rfl (any_of HT_.out (by kernel_rfl)) (fun _ _ _ h=>h) (Or.inl ⟨by rfl,?_⟩) ?_ ?_
        rotate_left
        · intro w'
          go_simp
          with_reducible rfl
        rotate_left
        · simp only [Act.put,List.setIfInBounds_toArray,List.set_cons_zero,List.set_cons_succ,i64_w,i32_w]
          rfl
        refine pure_ (i:=5) (N:=some 90) (v:=?_) (a':=?_) #[false,true,true,false,true,true,false,false,false,false,false,false,false] rfl rfl (any_of HT_.out (by kernel_rfl)) (fun _ _ _ h=>h) (Or.inl ⟨by rfl,?_⟩) ?_ ?_
        rotate_left
        · intro w'
          go_simp
          with_reducible rfl
        rotate_left
        · simp only [Act.put,List.setIfInBounds_toArray,List.set_cons_zero,List.set_cons_succ,i64_w,i32_w]
          rfl
        refine pure_ (i:=7) (N:=some 92) (v:=?_) (a':=?_) #[false,true,true,false,true,true,false,true,false,false,false,false,false] rfl rfl (any_of HT_.out (by kernel_rfl)) (fun _ _ _ h=>h) (Or.inl ⟨by rfl,?_⟩) ?_ ?_
        rotate_left
        · intro w'
          go_simp
          with_reducible rfl
        rotate_left
        · simp only [Act.put,List.setIfInBounds_toArray,List.set_cons_zero,List.set_cons_succ,i64_w,i32_w]
          rfl
        refine pure_ (i:=8) (N:=some 93) (v:=?_) (a':=?_) #[false,true,true,false,true,true,false,true,true,false,false,false,false] rfl rfl (any_of HT_.out (by kernel_rfl)) (fun _ _ _ h=>h) (Or.inl ⟨by rfl,?_⟩) ?_ ?_
        rotate_left
        · intro w'
          go_simp
          with_reducible rfl
        rotate_left
        · simp only [Act.put,List.setIfInBounds_toArray,List.set_cons_zero,List.set_cons_succ,i64_w,i32_w]
          rfl
        refine take_ (i:=0) (N:=some 85) (v:=?_) (a':=?_) #[true,true,true,false,true,true,false,true,true,false,false,false,false] rfl rfl (take_ofW HT_.out HW_.out (by kernel_rfl)) (fun _ _ _ h=>h) (Or.inl ⟨by rfl,?_⟩) hHeld ?_ ?_
        rotate_left
        · rintro w' ⟨sb,x1,x2,x3⟩
          obtain ⟨s0,s1,s2,s3,s4,s5,s6⟩:=box_at sb
          go_simp
          with_reducible rfl
        rotate_left
        · simp only [Act.put,List.setIfInBounds_toArray,List.set_cons_zero,List.set_cons_succ,i64_w,i32_w]
          rfl
        refine take_ (i:=3) (N:=some 88) (v:=?_) (a':=?_) #[true,true,true,true,true,true,false,true,true,false,false,false,false] rfl rfl (take_ofW HT_.out HW_.out (by kernel_rfl)) (fun _ _ _ h=>h) (Or.inl ⟨by rfl,?_⟩) hHeld ?_ ?_
        rotate_left
        · rintro w' ⟨sb,x1,x2,x3⟩
          obtain ⟨s0,s1,s2,s3,s4,s5,s6⟩:=box_at sb
          go_simp
          with_reducible rfl
        rotate_left
        · simp only [Act.put,List.setIfInBounds_toArray,List.set_cons_zero,List.set_cons_succ,i64_w,i32_w]
          rfl
        refine take_ (i:=6) (N:=some 91) (v:=?_) (a':=?_) #[true,true,true,true,true,true,true,true,true,false,false,false,false] rfl rfl (take_ofW HT_.out HW_.out (by kernel_rfl)) (fun _ _ _ h=>h) (Or.inl ⟨by rfl,?_⟩) hHeld ?_ ?_
        rotate_left
        · rintro w' ⟨sb,x1,x2,x3⟩
          obtain ⟨s0,s1,s2,s3,s4,s5,s6⟩:=box_at sb
          go_simp
          with_reducible rfl
        rotate_left
        · simp only [Act.put,List.setIfInBounds_toArray,List.set_cons_zero,List.set_cons_succ,i64_w,i32_w]
          rfl
        refine take_ (i:=9) (N:=some 94) (v:=?_) (a':=?_) #[true,true,true,true,true,true,true,true,true,true,false,false,false] rfl rfl (take_ofW HT_.out HW_.out (by kernel_rfl)) (fun _ _ _ h=>h) (Or.inl ⟨by rfl,?_⟩) hHeld ?_ ?_
        rotate_left
        · rintro w' ⟨sb,x1,x2,x3⟩
          obtain ⟨s0,s1,s2,s3,s4,s5,s6⟩:=box_at sb
          go_simp
          with_reducible rfl
        rotate_left
        · simp only [Act.put,List.setIfInBounds_toArray,List.set_cons_zero,List.set_cons_succ,i64_w,i32_w]
          rfl
        refine one_ (i:=10) (N:=some 95) #[true,true,true,true,true,true,true,true,true,true,true,false,false] rfl rfl (one_of HT_.out (by kernel_rfl)) (by decide) (fun K hK=>?_)
        apply St.lit_step [l1,l2,l3] [.slice B1 m1 r1,.slice B2 m2 r2,.slice B3 m3 r3] HC.out (Reps.p3 ⟨_,rfl,(by repeat (first|exact List.mem_cons_self|apply List.mem_cons_of_mem))⟩ ⟨_,rfl,(by repeat (first|exact List.mem_cons_self|apply List.mem_cons_of_mem))⟩ ⟨_,rfl,(by repeat (first|exact List.mem_cons_self|apply List.mem_cons_of_mem))⟩)
        case hd=>rfl
        case hw=>rfl
        case hm=>simp
        case hrun=>exact run_lit (xs:=[]) rfl (Or.inr (Or.inr ⟨rfl,_,_,_,_,_,_,_,_,_,_,_,_,rfl,rfl,rfl,rfl,rfl⟩))
        intro A' n' q' w9 h
        refine hK.out _ _ ⟨h.blk (by repeat (first|exact List.mem_cons_self|apply List.mem_cons_of_mem)),h.cel (p:=⟨p,0,none⟩) (v:=.slice B1 m1 r1) (by repeat (first|exact List.mem_cons_self|apply List.mem_cons_of_mem)),h.cel (p:=⟨p,1,none⟩) (v:=.slice B2 m2 r2) (by repeat (first|exact List.mem_cons_self|apply List.mem_cons_of_mem)),h.cel (p:=⟨p,2,none⟩) (v:=.slice B3 m3 r3) (by repeat (first|exact List.mem_cons_self|apply List.mem_cons_of_mem))⟩ (fun hHeld=>?_)
        clear hK K
        replace HC:=am h
        clear h
        refine norm_ (a':=?_) ?_ ?_
        rotate_left
        · show Act.put _ (some 95) _=_
          simp only [Act.put,List.setIfInBounds_toArray,List.set_cons_zero,List.set_cons_succ,i64_w,i32_w]
          rfl
        refine one_ (i:=11) (N:=some 96) #[true,true,true,true,true,true,true,true,true,true,true,true,false] rfl rfl (one_of HT_.out (by kernel_rfl)) (by decide) (fun K hK=>?_)
        refine goes_ Tryz.func89 (by kernel_rfl) rfl #[.agg #[.int .i64 kx,.int .i64 0,.int .i64 0,.int .i64 0,.int .i64 N,.string s,.string t],.slice A' n' q'] (by rfl) rfl rfl (by (try simp only [List.map_toArray,List.map_cons,List.map_nil]);first|done|rfl) ?_
        refine (make_any HC.out (pow_most _ (by omega)) (by simp) kx 0 0 0 N s t HD.out.1 HD.out.2).mono ?_
        rintro e w10 ⟨A2,n2,q2,l9,rfl,h⟩
        refine ⟨_,rfl,?_⟩
        refine hK.out _ _ ⟨h.blk (by repeat (first|exact List.mem_cons_self|apply List.mem_cons_of_mem)),h.cel (p:=⟨p,0,none⟩) (v:=.slice B1 m1 r1) (by repeat (first|exact List.mem_cons_self|apply List.mem_cons_of_mem)),h.cel (p:=⟨p,1,none⟩) (v:=.slice B2 m2 r2) (by repeat (first|exact List.mem_cons_self|apply List.mem_cons_of_mem)),h.cel (p:=⟨p,2,none⟩) (v:=.slice B3 m3 r3) (by repeat (first|exact List.mem_cons_self|apply List.mem_cons_of_mem))⟩ (fun hHeld=>?_)
        clear hK K
        replace HC:=am h
        clear h
        refine norm_ (a':=?_) ?_ ?_
        rotate_left
        · show Act.put _ (some 96) _=_
          simp only [Act.put,List.setIfInBounds_toArray,List.set_cons_zero,List.set_cons_succ,i64_w,i32_w]
          rfl
        refine pure_ (i:=12) (N:=some 4) (v:=?_) (a':=?_) #[true,true,true,true,true,true,true,true,true,true,true,true,true] rfl rfl (any_of HT_.out (by kernel_rfl)) (fun _ _ _ h=>h) (Or.inl ⟨by rfl,?_⟩) ?_ ?_
        rotate_left
        · intro w'
          go_simp
          with_reducible rfl
        rotate_left
        · simp only [Act.put,List.setIfInBounds_toArray,List.set_cons_zero,List.set_cons_succ,i64_w,i32_w]
          rfl
        refine done_ (done_of HT_.out (by kernel_rfl)) ?_
        try go_wp2
        go_ret
        exact HS.out.fin2 HC.out (by repeat (first|exact List.mem_cons_self|apply List.mem_cons_of_mem)) (pow_l (by
          by_cases q:deep≤0
          · rcases HK.out q with rfl|rfl|rfl <;> simp [arN] at hk'
          · have:=HM.out;omega))
end Go.Proofs.YthmpgocaoccnaaaGreatDoor.PFnFresh.Dw
