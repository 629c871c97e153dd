/- The draws' walks. -/
import Derived.Test.YthmpgocaoccnaaaGreatDoorVFnFreshDrawn
set_option linter.unusedVariables false
set_option linter.unusedSimpArgs false
namespace Go.Proofs.YthmpgocaoccnaaaGreatDoor.PFnFresh.Dw
open Go.RowKit Go.Proofs.YthmpgocaoccnaaaGreatDoorW.PrintWords Go.Proofs.YthmpgocaoccnaaaGreatDoorW.PrintLast Go.Proofs.YthmpgocaoccnaaaGreatDoorW.PrintMore
section
variable {ops:Array Oper} {rest:List Oper} {o:Oper} {a:Act} {Q:Exit→Act→World→Prop} {w0 w W:World} {g:Nat} {L:List Fa}
theorem St.lit_n {N:Tmp} (h:St w0 g W L) (k:Int) (hgd:o.guard=none) (hd:o.dst=some N)
    (hrun:(execOp a.eval o).run Tryz.prog W=.ok (.value (.slice (some ⟨W.heap.size,0,none⟩) 1 1)) (W.alloc (.cells #[.int .i64 k,.int .i64 0,.int .i64 0,.int .i64 0,.int .i64 0,.string ⟨#[]⟩,.string ⟨#[]⟩] 45)))
    (k1:∀ A n c w1,St w0 g w1 (.n (.slice A n c) 1 [(⟨k,0,0,0,0,⟨#[]⟩,⟨#[]⟩⟩:S45)]::L)→wpList Tryz.prog ops Q rest (a.put o.dst (.slice A n c)) w1):wpList Tryz.prog ops Q (o::rest) a W:=by
  refine Kd.R_lit k45 (w0:=W) W.heap.size 45 hgd hd (xs:=[(⟨k,0,0,0,0,⟨#[]⟩,⟨#[]⟩⟩:S45)]) (inner:=[.int .i64 k,.int .i64 0,.int .i64 0,.int .i64 0,.int .i64 0,.string ⟨#[]⟩,.string ⟨#[]⟩]) (ok:=fun _=>True) (okp:=fun _=>True) hrun (Reps.c7 (k45_mkM _ _ _ _) (Reps.none _ _)) (fun _ hk=>hk) trivial (Below.refl _ _) (Nat.le_refl _) (by simp) ?_
  intro v1 w1 hR hB _ _
  obtain ⟨A',c',rfl⟩:=Kd.R_slice hR
  have hg:good 1 [(⟨k,0,0,0,0,⟨#[]⟩,⟨#[]⟩⟩:S45)]:=⟨fun x hx=>by rw [List.mem_singleton.1 hx];exact ⟨(by decide:drawnB ⟨#[]⟩=true),(by decide:drawnB ⟨#[]⟩=true)⟩,by simp,by simp⟩
  exact k1 _ _ _ w1 ((h.below hB).cons ⟨fresh_ok hR h.lt,hg⟩)
/-- the row of the names that fit, as it is being made behind w. -/
def Tx (w w':World) (v:Value) (xs:List ByteArray):Prop:=Below w.heap.size w w'∧Kd.R Kd.string 9 w' w.heap.size (fun _=>True) v xs∧drawnL xs
theorem Tx.new {N:Tmp} (hgd:o.guard=none) (hd:o.dst=some N)
    (hrun:(execOp a.eval o).run Tryz.prog W=.ok (.value (.slice (some ⟨W.heap.size,0,none⟩) 0 0)) (W.alloc (.cells #[] 9)))
    (k:∀ A n c w1,n=0→Tx W w1 (.slice A n c) []→wpList Tryz.prog ops Q rest (a.put o.dst (.slice A n c)) w1):wpList Tryz.prog ops Q (o::rest) a W:=by
  refine Kd.R_lit Kd.string (w0:=W) W.heap.size 9 hgd hd (xs:=[]) (inner:=[]) (ok:=fun _=>True) (okp:=fun _=>True) hrun (Reps.none _ _) (fun _ hk=>hk) trivial (Below.refl _ _) (Nat.le_refl _) (by simp) ?_
  intro v1 w1 hR hB _ _
  obtain ⟨A',c',rfl⟩:=Kd.R_slice hR
  exact k _ _ _ w1 rfl ⟨hB,hR,fun x hx=>by cases hx⟩
theorem Tx.one {v:Value} {xs:List ByteArray} {y:ByteArray} {s x:Operand} (h:Tx w W v xs) (hgd:o.guard=none) (ho:o.op=.call { callee:=.builtin .append,args:=#[s,x],argTypes:=#[42,42] }) (hs:a.eval s=v) (hx:a.eval x=.slice (some ⟨W.heap.size,0,none⟩) 1 1) (hl:xs.length≤1000) (hy:drawnB y=true)
    (k:∀ A n c w1,n=xs.length+1→Tx w w1 (.slice A n c) (xs++[y])→wpList Tryz.prog ops Q rest (a.put o.dst (.slice A n c)) w1):wpList Tryz.prog ops Q (o::rest) a (W.alloc (.cells #[.string y] 9)):=by
  obtain ⟨hB,hR,hd⟩:=h
  refine Kd.R_append Kd.string (w0:=w) w.heap.size hgd s x 42 9 (.string ⟨#[]⟩) 16 ho Tryz.underlying42 info9 rfl (by decide) (by decide) v xs y [.string y] (fun _=>True) (fun _=>False) hs hx rfl (fun _ h=>h.elim) (fun _ _=>trivial) hR hB hB.size (by omega) ?_
  intro v1 w1 hR1 hB1 _ _
  obtain ⟨A',c',rfl⟩:=Kd.R_slice hR1
  refine k _ _ _ w1 (by simp) ⟨hB1,hR1,fun z hz=>?_⟩
  rcases List.mem_append.1 hz with hz|hz
  · exact hd z hz
  · rw [List.mem_singleton.1 hz];exact hy
theorem Tx.drewN {w w':World} {v:Value} {xs:List ByteArray} (h:Tx w w' v xs) (n:Nat):Tx w (w'.drewN n) v xs:=⟨pw_below_drewN h.1 n,Kd.R_drewN h.2.1 n,h.2.2⟩
end
theorem pow_p {m:Nat} (h:0<m):4 ^ (m - 1) * 3+1≤4 ^ m:=by
  have:=pow_step (m - 1)
  rwa [Nat.sub_add_cancel h] at this
theorem pow_q {m:Nat} (h:0<m):4 ^ (m - 1+1)≤4 ^ m:=by rw [Nat.sub_add_cancel h];exact Nat.le_refl _
set_option maxHeartbeats 8000000 in
set_option maxRecDepth 100000 in
theorem gen_step (m:Nat) (hm:m≤15) (ih:0<m→GenC (m - 1)):GenC m:=by
  intro w0 w g L ty deep vN vT lN lT h hN hT hl hl2 hms
  have hRN:Kd.R Kd.string 9 w 0 (fun k=>k≠g) vN lN:=(h.2.2 _ hN).1
  obtain ⟨AN,cN,rfl⟩:=Kd.R_slice hRN
  have hRT:Kd.R (Kd.int .i64) 3 w 0 (fun k=>k≠g) vT lT:=h.2.2 _ hT
  obtain ⟨AT,cT,rfl⟩:=Kd.R_slice hRT
  have RN:=am (Kd.R_reads' hRN).2.2
  have RT:=am (Kd.R_reads' hRT).2.2
  have DN:=am (h.2.2 _ hN).2
  have HS:=am h
  have HN:=am hN
  have HT:=am hT
  have HM:=am (⟨hl,hl2,hms⟩:_∧_∧_)
  have w1:wrap64 (deep - 1)=deep - 1:=by unfold ms at hms;unfold wrap64;omega
  have w2:wrap64 (deep - 2)=deep - 2:=by unfold ms at hms;unfold wrap64;omega
  clear h hN hT hl hl2 hms hRN hRT
  go_enter Tryz.func90,Tryz.ntmps90
  go_wp2_with (first
    | ((with_reducible refine gate_lit (t:=42) (n:=0) rfl ?_);apply Tx.new;(case hd=>rfl);(case hgd=>rfl);(case hrun=>first|(go_simp;done)|(go_simp;rfl));intro A n q w' hn h;have HP:=am h;have HQ:=am hn;clear h hn))
  go_loopg [11,12] lN.length (fun kq v11 v12 w'=>∃ (A:Option Addr) (n c:Nat) (xs:List ByteArray) (i:Int),v11=.slice A n c∧v12=.int .i64 i∧Aside0 (0≤i∧i+kq=lN.length∧n=xs.length∧xs.length≤i)∧Aside0 (Tx w w' (.slice A n c) xs))
  case atStart=>exact ⟨_,_,_,[],0,rfl,rfl,⟨by omega,by omega,HQ.out,by simp⟩,HP⟩
  case round =>
    clear HP HQ
    obtain ⟨A,n,c,xs,i,rfl,rfl,HI,HP⟩:=hrel
    have i0:=HI.out.1
    have wi:wrap64 (i+1)=i+1:=by have:=HI.out;have:=HM.out;unfold wrap64;omega
    by_cases ci:i<(lN.length:Int)
    · have cib:=decide_eq_true ci
      go_wp2
      obtain ⟨k0,hk0⟩:∃ k0,k0=gk:=⟨_,rfl⟩
      have HK:=am hk0
      clear hk0
      go_loopg [13,14] lN.length (fun kq v13 v14 w'=>∃ (b:Bool) (j:Int),v13=.bool b∧v14=.int .i64 j∧Aside0 (0≤j∧j≤lN.length∧(lN.length:Int)≤j+kq)∧Aside0 (Tx w w' (.slice A n c) xs))
      case atStart=>exact ⟨true,i+1,rfl,by rw [wi],⟨by omega,by omega,by omega⟩,HP⟩
      case round =>
        clear HP
        obtain ⟨b,j,rfl,rfl,HJ,HP⟩:=hrel
        have j0:=HJ.out.1
        have wj:wrap64 (j+1)=j+1:=by have:=HJ.out;have:=HM.out;unfold wrap64;omega
        by_cases cj:j<(lN.length:Int)
        · have cjb:=decide_eq_true cj
          obtain ⟨ad,e,hx⟩:=Kd.at_string (Kd.C_below RN.out HP.out.1) j j0 cj
          obtain ⟨ad2,e2,hx2⟩:=Kd.at_string (Kd.C_below RN.out HP.out.1) i i0 ci
          cases e
          cases e2
          replace i0:=eq_true i0
          replace j0:=eq_true j0
          replace ci:=eq_true ci
          replace cj:=eq_true cj
          cases b
          all_goals (go_wp2;repeat (go_quiet (fail);try go_wp2))
          all_goals go_roundg (gk - 1)
          case measure=>have:=HJ.out;have:=of_eq_true cj;omega
          case measure=>have:=HJ.out;have:=of_eq_true cj;omega
          all_goals exact ⟨_,j+1,rfl,by rw [wj],⟨by have:=HJ.out;omega,by have:=of_eq_true cj;omega,by have:=HJ.out;have:=of_eq_true cj;omega⟩,⟨by repeat (first|exact HP.out|apply Tx.drewN)⟩⟩
        · have cjb:=decide_eq_false cj
          clear cj
          cases b
          · go_wp2
            go_roundg (k0 - 1)
            case measure=>have:=HI.out;have:=HK.out;omega
            case rel=>exact ⟨_,_,_,xs,i+1,rfl,by rw [wi],⟨by omega,by have:=HI.out;have:=HK.out;omega,by have:=HI.out;have:=HK.out;omega,by have:=HI.out;have:=HK.out;omega⟩,HP⟩
          · have ci2:i<(lT.length:Int):=by have:=HM.out;omega
            obtain ⟨ad,e,hx⟩:=Kd.at_string (Kd.C_below RN.out HP.out.1) i i0 ci
            obtain ⟨ad2,e2,hx2⟩:=Kd.at_int (Kd.C_below RT.out HP.out.1) i i0 ci2
            cases e
            cases e2
            have DX:=am (show drawnB (rdOf ByteArray.empty lN i)=true from by
              have hi:i.toNat<lN.length:=by omega
              have:=DN.out _ (List.getElem_mem hi)
              unfold rdOf
              simpa [List.getD_eq_getElem?_getD,List.getElem?_eq_getElem hi] using this)
            by_cases et:rd lT i=ty
            · have etb:(rd lT i == ty)=true:=beq_iff_eq.mpr et
              clear et
              replace i0:=eq_true i0
              replace ci:=eq_true ci
              replace ci2:=eq_true ci2
              go_wp2_with (first
                | ((with_reducible refine gate_builtin (b:=.append) rfl ?_);at_builtin;apply Tx.one HP.out;(case hgd=>rfl);(case ho=>rfl);(case hs=>rfl);(case hx=>rfl);(case hl=>have:=HI.out;have:=HK.out;have:=HM.out;have:=of_eq_true ci;omega);(case hy=>exact DX.out);intro A n q w' hn h;replace HP:=am h;have HQ:=am hn;clear h hn))
              go_roundg (k0 - 1)
              case measure=>have:=HI.out;have:=HK.out;have:=of_eq_true ci;omega
              case rel=>exact ⟨_,_,_,_,i+1,rfl,by rw [wi],⟨by have:=HI.out;have:=HK.out;omega,by have:=HI.out;have:=HK.out;have:=of_eq_true ci;omega,by rw [HQ.out];simp,by have:=HI.out;have:=HK.out;simp;omega⟩,HP⟩
            · have etb:(rd lT i == ty)=false:=beq_eq_false_iff_ne.mpr et
              clear et
              replace i0:=eq_true i0
              replace ci:=eq_true ci
              replace ci2:=eq_true ci2
              go_wp2
              go_roundg (k0 - 1)
              case measure=>have:=HI.out;have:=HK.out;have:=of_eq_true ci;omega
              case rel=>exact ⟨_,_,_,xs,i+1,rfl,by rw [wi],⟨by have:=HI.out;have:=HK.out;omega,by have:=HI.out;have:=HK.out;have:=of_eq_true ci;omega,by have:=HI.out;have:=HK.out;omega,by have:=HI.out;have:=HK.out;omega⟩,HP⟩
    · have cib:=decide_eq_false ci
      obtain ⟨_,hi2,rfl,hi3⟩:=HI.out
      have HF0:=am (show xs.length≤1048576 from by have:=HM.out;omega)
      have HG:=HS
      replace HS:=am ((HG.out.below HP.out.1).cons (f:=.s (.slice A xs.length c) xs) ⟨fresh_ok HP.out.2.1 HG.out.lt,HP.out.2.2⟩)
      clear HP HI HG hi2 hi3 i0 wi ci
      have HF:=am (show 0<xs.length→0<xs.length∧xs.length≤1048576 from fun h=>⟨h,HF0.out⟩)
      clear HF0
      have d0:deep≤0∨0<deep:=by omega
      rcases Nat.eq_zero_or_pos xs.length with hx|hx
      all_goals rcases d0 with dp|dp
      all_goals first
        | (replace HF:=am (HF.out hx);have x1:(0<xs.length)=True:=eq_true hx)
        | have x1:(0<xs.length)=False:=eq_false (by omega)
      all_goals first
        | (have d1:decide (deep≤0)=true:=decide_eq_true dp;have d2:decide (deep > 0)=false:=decide_eq_false (by omega))
        | (have d1:decide (deep≤0)=false:=decide_eq_false (by omega);have d2:decide (deep > 0)=true:=decide_eq_true dp)
      all_goals have DP:=am dp
      all_goals clear hx dp
      all_goals (go_upto_region 17 with (first
        | ((with_reducible refine gate_lit (t:=42) (n:=5) rfl ?_);apply St.lit_s [⟨#[120]⟩,⟨#[121]⟩,⟨#[122]⟩,⟨#[102]⟩,⟨#[103]⟩] HS.out (by unfold drawnL;decide);(case hd=>rfl);(case hgd=>rfl);(case hm=>decide);(case hrun=>first|(go_simp;done)|(go_simp;rfl));intro A n q w' h;replace HS:=am h;clear h)
        | ((with_reducible refine gate_lit (t:=42) (n:=0) rfl ?_);apply St.ts HS.out;(case hd=>rfl);(case hgd=>rfl);(case hrun=>first|(go_simp;done)|(go_simp;rfl));intro A n q w' h;have HP:=am h;clear h)
        | ((with_reducible refine gate_lit (t:=53) (n:=0) rfl ?_);apply St.tp (Kd.int .i64) 3 HS.out;(case hd=>rfl);(case hgd=>rfl);(case hrun=>first|(go_simp;done)|(go_simp;rfl));intro A n q w' h;have HP:=am h;clear h)
        | ((with_reducible refine gate_lit (t:=53) (n:=7) rfl ?_);apply St.lit_i [0,1,2,3,7,65535,x] HS.out;(case hd=>rfl);(case hgd=>rfl);(case hm=>simp);(case hrun=>first|(go_simp;done)|(go_simp;rfl));intro A n q w' h;replace HS:=am h;clear h)
        | ((with_reducible refine gate_builtin (b:=.append) rfl ?_);at_builtin;(first|(apply Tp.rows_s HP.out;(case hgd=>rfl);(case ho=>rfl);(case hs=>rfl);(case hx=>rfl);(case hN=>repeat (first|exact List.mem_cons_self|exact HN.out|exact HT.out|apply List.mem_cons_of_mem));(case hl=>(try simp only [List.length_append,List.length_cons,List.length_nil,List.nil_append]);have h1:=HM.out;have:=DP.out;unfold ms at h1;omega);intro A n q w' h;replace HP:=am h;clear h)|(apply Tp.rows_i HP.out;(case hgd=>rfl);(case ho=>rfl);(case hs=>rfl);(case hx=>rfl);(case hN=>repeat (first|exact List.mem_cons_self|exact HN.out|exact HT.out|apply List.mem_cons_of_mem));(case hl=>(try simp only [List.length_append,List.length_cons,List.length_nil,List.nil_append]);have h1:=HM.out;have:=DP.out;unfold ms at h1;omega);intro A n q w' h;replace HP:=am h;clear h)|(apply Tp.one_s HP.out;(case hgd=>rfl);(case ho=>rfl);(case hs=>rfl);(case hx=>rfl);(case hl=>(try simp only [List.length_append,List.length_cons,List.length_nil,List.nil_append]);have h1:=HM.out;have:=DP.out;unfold ms at h1;omega);(case hy=>exact HX.out);intro A n q w' h;replace HS:=am h;clear h HP)|(apply Tp.one_i HP.out;(case hgd=>rfl);(case ho=>rfl);(case hs=>rfl);(case hx=>rfl);(case hl=>(try simp only [List.length_append,List.length_cons,List.length_nil,List.nil_append]);have h1:=HM.out;have:=DP.out;unfold ms at h1;omega);intro A n q w' h;replace HS:=am h;clear h HP)))
        | (go_at_call 77;(with_reducible refine (pick_any HS.out ?s1 ?s2).mono ?_);(case s1=>first|exact HF.out.1|decide);(case s2=>first|exact HF.out.2|decide);rintro e w' ⟨x,rfl,hd,h⟩;replace HS:=am h;clear h;have HX:=am hd;clear hd)
        | (go_at_call 76;(with_reducible refine (pickInt_any HS.out ?s1 ?s2).mono ?_);(case s1=>simp);(case s2=>simp);rintro e w' ⟨x,rfl,_,h⟩;replace HS:=am h;clear h)
        | (go_at_call 99;(with_reducible refine (var_any HS.out _ HX.out).mono ?_);rintro e w' ⟨A,n,q,l,rfl,h⟩;replace HS:=am h;clear h)
        | (go_at_call 91;(with_reducible refine (int_any HS.out _).mono ?_);rintro e w' ⟨A,n,q,l,rfl,h⟩;replace HS:=am h;clear h)
        | (go_at_call 59;(with_reducible refine (below_any HS.out _).mono ?_);rintro e w' ⟨x,rfl,_,_,_,h⟩;replace HS:=am h;clear h)
        | (go_at_call 57;(with_reducible refine (once_any HS.out _).mono ?_);rintro e w' ⟨x,rfl,h⟩;replace HS:=am h;clear h;cases x)
        | (go_at_call 90;apply gen_go (ih (by have h1:=HM.out;have:=DP.out;unfold ms at h1;omega)) HS.out;(case hN=>repeat (first|exact List.mem_cons_self|exact HN.out|exact HT.out|apply List.mem_cons_of_mem));(case hT=>repeat (first|exact List.mem_cons_self|exact HN.out|exact HT.out|apply List.mem_cons_of_mem));(case hl=>(try simp only [List.length_append,List.length_cons,List.length_nil,List.nil_append]);have h1:=HM.out;have:=DP.out;unfold ms at h1;omega);(case hl2=>(try simp only [List.length_append,List.length_cons,List.length_nil,List.nil_append]);have h1:=HM.out;have:=DP.out;unfold ms at h1;omega);(case hm=>have h1:=HM.out;have:=DP.out;unfold ms at h1 ⊢;omega);intro A n q l w' h;replace HS:=am h;clear h)
        | (go_at_call 100;(with_reducible refine (any_any (m - 1) ?s0 (ih ?s1) HS.out ty deep _ _ lN lT ?s2 ?s3 ?s4 ?s5 ?s6 ?s7 ?s8).mono ?_);(case s0=>omega);(case s1=>have h1:=HM.out;have:=DP.out;unfold ms at h1;omega);(case s2=>repeat (first|exact List.mem_cons_self|exact HN.out|exact HT.out|apply List.mem_cons_of_mem));(case s3=>repeat (first|exact List.mem_cons_self|exact HN.out|exact HT.out|apply List.mem_cons_of_mem));(case s4=>exact HM.out.1);(case s5=>have h1:=HM.out;have:=DP.out;unfold ms at h1;omega);(case s6=>have h1:=HM.out;have:=DP.out;unfold ms at h1;omega);(case s7=>have h1:=HM.out;have:=DP.out;unfold ms at h1;omega);(case s8=>have h1:=HM.out;have:=DP.out;unfold ms at h1;omega);rintro e w' ⟨A,n,q,l,rfl,h⟩;replace HS:=am h;clear h)
        | (go_at_call 101;(with_reducible refine (num_any (m - 1) ?s0 (ih ?s1) HS.out deep _ _ lN lT ?s2 ?s3 ?s4 ?s5 ?s6 ?s7 ?s8).mono ?_);(case s0=>omega);(case s1=>have h1:=HM.out;have:=DP.out;unfold ms at h1;omega);(case s2=>repeat (first|exact List.mem_cons_self|exact HN.out|exact HT.out|apply List.mem_cons_of_mem));(case s3=>repeat (first|exact List.mem_cons_self|exact HN.out|exact HT.out|apply List.mem_cons_of_mem));(case s4=>exact HM.out.1);(case s5=>have h1:=HM.out;have:=DP.out;unfold ms at h1;omega);(case s6=>have h1:=HM.out;have:=DP.out;unfold ms at h1;omega);(case s7=>have h1:=HM.out;have:=DP.out;unfold ms at h1;omega);(case s8=>have h1:=HM.out;have:=DP.out;unfold ms at h1;omega);rintro e w' ⟨A,n,q,l,rfl,h⟩;replace HS:=am h;clear h)
        | ((with_reducible refine gate_lit (t:=93) rfl ?_);(first|(apply St.lit1 HS.out;(case ho=>rfl);(case hd=>rfl);(case hgd=>rfl);(case e1=>rfl);(case h1=>repeat (first|exact List.mem_cons_self|apply List.mem_cons_of_mem)))|(apply St.lit2 HS.out;(case ho=>rfl);(case hd=>rfl);(case hgd=>rfl);(case e1=>rfl);(case e2=>rfl);(case h1=>repeat (first|exact List.mem_cons_self|apply List.mem_cons_of_mem));(case h2=>repeat (first|exact List.mem_cons_self|apply List.mem_cons_of_mem))));intro A n q w' h;replace HS:=am h;clear h)
        | ((with_reducible refine gate_lit (t:=26) rfl ?_);apply St.lit_n HS.out 12;(case hd=>rfl);(case hgd=>rfl);(case hrun=>first|(go_simp;done)|(go_simp;rfl));intro A n q w' h;replace HS:=am h;clear h)
        | (go_at_call 89;(with_reducible refine (make_any HS.out (pow_most (m - 1) (by omega)) ?s1 _ _ _ _ _ _ _ ?s2 ?s3).mono ?_);(case s1=>simp);(case s2=>first|exact HX.out|decide);(case s3=>decide);rintro e w' ⟨A,n,q,l,rfl,h⟩;replace HS:=am h;clear h)))
      all_goals first
        | (go_ret;refine HS.out.fin ?_ (fun f hf=>by simp [hf]);first|exact pow_one _|exact pow_p (by have h1:=HM.out;have:=DP.out;unfold ms at h1;omega)|exact pow_q (by have h1:=HM.out;have:=DP.out;unfold ms at h1;omega))
        | skip
      all_goals have hty:ty=0∨ty=1∨ty=2∨ty=3∨(ty≠0∧ty≠1∧ty≠2∧ty≠3):=by omega
      all_goals rcases hty with rfl|rfl|rfl|rfl|hne
      all_goals first
        | (have e0:(ty == 0)=false:=beq_eq_false_iff_ne.mpr hne.1;have e1:(ty == 1)=false:=beq_eq_false_iff_ne.mpr hne.2.1;have e2:(ty == 2)=false:=beq_eq_false_iff_ne.mpr hne.2.2.1;have e3:(ty == 3)=false:=beq_eq_false_iff_ne.mpr hne.2.2.2)
        | skip
      all_goals (go_wp2_with (first
        | ((with_reducible refine gate_lit (t:=42) (n:=5) rfl ?_);apply St.lit_s [⟨#[120]⟩,⟨#[121]⟩,⟨#[122]⟩,⟨#[102]⟩,⟨#[103]⟩] HS.out (by unfold drawnL;decide);(case hd=>rfl);(case hgd=>rfl);(case hm=>decide);(case hrun=>first|(go_simp;done)|(go_simp;rfl));intro A n q w' h;replace HS:=am h;clear h)
        | ((with_reducible refine gate_lit (t:=42) (n:=0) rfl ?_);apply St.ts HS.out;(case hd=>rfl);(case hgd=>rfl);(case hrun=>first|(go_simp;done)|(go_simp;rfl));intro A n q w' h;have HP:=am h;clear h)
        | ((with_reducible refine gate_lit (t:=53) (n:=0) rfl ?_);apply St.tp (Kd.int .i64) 3 HS.out;(case hd=>rfl);(case hgd=>rfl);(case hrun=>first|(go_simp;done)|(go_simp;rfl));intro A n q w' h;have HP:=am h;clear h)
        | ((with_reducible refine gate_lit (t:=53) (n:=7) rfl ?_);apply St.lit_i [0,1,2,3,7,65535,x] HS.out;(case hd=>rfl);(case hgd=>rfl);(case hm=>simp);(case hrun=>first|(go_simp;done)|(go_simp;rfl));intro A n q w' h;replace HS:=am h;clear h)
        | ((with_reducible refine gate_builtin (b:=.append) rfl ?_);at_builtin;(first|(apply Tp.rows_s HP.out;(case hgd=>rfl);(case ho=>rfl);(case hs=>rfl);(case hx=>rfl);(case hN=>repeat (first|exact List.mem_cons_self|exact HN.out|exact HT.out|apply List.mem_cons_of_mem));(case hl=>(try simp only [List.length_append,List.length_cons,List.length_nil,List.nil_append]);have h1:=HM.out;have:=DP.out;unfold ms at h1;omega);intro A n q w' h;replace HP:=am h;clear h)|(apply Tp.rows_i HP.out;(case hgd=>rfl);(case ho=>rfl);(case hs=>rfl);(case hx=>rfl);(case hN=>repeat (first|exact List.mem_cons_self|exact HN.out|exact HT.out|apply List.mem_cons_of_mem));(case hl=>(try simp only [List.length_append,List.length_cons,List.length_nil,List.nil_append]);have h1:=HM.out;have:=DP.out;unfold ms at h1;omega);intro A n q w' h;replace HP:=am h;clear h)|(apply Tp.one_s HP.out;(case hgd=>rfl);(case ho=>rfl);(case hs=>rfl);(case hx=>rfl);(case hl=>(try simp only [List.length_append,List.length_cons,List.length_nil,List.nil_append]);have h1:=HM.out;have:=DP.out;unfold ms at h1;omega);(case hy=>exact HX.out);intro A n q w' h;replace HS:=am h;clear h HP)|(apply Tp.one_i HP.out;(case hgd=>rfl);(case ho=>rfl);(case hs=>rfl);(case hx=>rfl);(case hl=>(try simp only [List.length_append,List.length_cons,List.length_nil,List.nil_append]);have h1:=HM.out;have:=DP.out;unfold ms at h1;omega);intro A n q w' h;replace HS:=am h;clear h HP)))
        | (go_at_call 77;(with_reducible refine (pick_any HS.out ?s1 ?s2).mono ?_);(case s1=>first|exact HF.out.1|decide);(case s2=>first|exact HF.out.2|decide);rintro e w' ⟨x,rfl,hd,h⟩;replace HS:=am h;clear h;have HX:=am hd;clear hd)
        | (go_at_call 76;(with_reducible refine (pickInt_any HS.out ?s1 ?s2).mono ?_);(case s1=>simp);(case s2=>simp);rintro e w' ⟨x,rfl,_,h⟩;replace HS:=am h;clear h)
        | (go_at_call 99;(with_reducible refine (var_any HS.out _ HX.out).mono ?_);rintro e w' ⟨A,n,q,l,rfl,h⟩;replace HS:=am h;clear h)
        | (go_at_call 91;(with_reducible refine (int_any HS.out _).mono ?_);rintro e w' ⟨A,n,q,l,rfl,h⟩;replace HS:=am h;clear h)
        | (go_at_call 59;(with_reducible refine (below_any HS.out _).mono ?_);rintro e w' ⟨x,rfl,_,_,_,h⟩;replace HS:=am h;clear h)
        | (go_at_call 57;(with_reducible refine (once_any HS.out _).mono ?_);rintro e w' ⟨x,rfl,h⟩;replace HS:=am h;clear h;cases x)
        | (go_at_call 90;apply gen_go (ih (by have h1:=HM.out;have:=DP.out;unfold ms at h1;omega)) HS.out;(case hN=>repeat (first|exact List.mem_cons_self|exact HN.out|exact HT.out|apply List.mem_cons_of_mem));(case hT=>repeat (first|exact List.mem_cons_self|exact HN.out|exact HT.out|apply List.mem_cons_of_mem));(case hl=>(try simp only [List.length_append,List.length_cons,List.length_nil,List.nil_append]);have h1:=HM.out;have:=DP.out;unfold ms at h1;omega);(case hl2=>(try simp only [List.length_append,List.length_cons,List.length_nil,List.nil_append]);have h1:=HM.out;have:=DP.out;unfold ms at h1;omega);(case hm=>have h1:=HM.out;have:=DP.out;unfold ms at h1 ⊢;omega);intro A n q l w' h;replace HS:=am h;clear h)
        | (go_at_call 100;(with_reducible refine (any_any (m - 1) ?s0 (ih ?s1) HS.out ty deep _ _ lN lT ?s2 ?s3 ?s4 ?s5 ?s6 ?s7 ?s8).mono ?_);(case s0=>omega);(case s1=>have h1:=HM.out;have:=DP.out;unfold ms at h1;omega);(case s2=>repeat (first|exact List.mem_cons_self|exact HN.out|exact HT.out|apply List.mem_cons_of_mem));(case s3=>repeat (first|exact List.mem_cons_self|exact HN.out|exact HT.out|apply List.mem_cons_of_mem));(case s4=>exact HM.out.1);(case s5=>have h1:=HM.out;have:=DP.out;unfold ms at h1;omega);(case s6=>have h1:=HM.out;have:=DP.out;unfold ms at h1;omega);(case s7=>have h1:=HM.out;have:=DP.out;unfold ms at h1;omega);(case s8=>have h1:=HM.out;have:=DP.out;unfold ms at h1;omega);rintro e w' ⟨A,n,q,l,rfl,h⟩;replace HS:=am h;clear h)
        | (go_at_call 101;(with_reducible refine (num_any (m - 1) ?s0 (ih ?s1) HS.out deep _ _ lN lT ?s2 ?s3 ?s4 ?s5 ?s6 ?s7 ?s8).mono ?_);(case s0=>omega);(case s1=>have h1:=HM.out;have:=DP.out;unfold ms at h1;omega);(case s2=>repeat (first|exact List.mem_cons_self|exact HN.out|exact HT.out|apply List.mem_cons_of_mem));(case s3=>repeat (first|exact List.mem_cons_self|exact HN.out|exact HT.out|apply List.mem_cons_of_mem));(case s4=>exact HM.out.1);(case s5=>have h1:=HM.out;have:=DP.out;unfold ms at h1;omega);(case s6=>have h1:=HM.out;have:=DP.out;unfold ms at h1;omega);(case s7=>have h1:=HM.out;have:=DP.out;unfold ms at h1;omega);(case s8=>have h1:=HM.out;have:=DP.out;unfold ms at h1;omega);rintro e w' ⟨A,n,q,l,rfl,h⟩;replace HS:=am h;clear h)
        | ((with_reducible refine gate_lit (t:=93) rfl ?_);(first|(apply St.lit1 HS.out;(case ho=>rfl);(case hd=>rfl);(case hgd=>rfl);(case e1=>rfl);(case h1=>repeat (first|exact List.mem_cons_self|apply List.mem_cons_of_mem)))|(apply St.lit2 HS.out;(case ho=>rfl);(case hd=>rfl);(case hgd=>rfl);(case e1=>rfl);(case e2=>rfl);(case h1=>repeat (first|exact List.mem_cons_self|apply List.mem_cons_of_mem));(case h2=>repeat (first|exact List.mem_cons_self|apply List.mem_cons_of_mem))));intro A n q w' h;replace HS:=am h;clear h)
        | ((with_reducible refine gate_lit (t:=26) rfl ?_);apply St.lit_n HS.out 12;(case hd=>rfl);(case hgd=>rfl);(case hrun=>first|(go_simp;done)|(go_simp;rfl));intro A n q w' h;replace HS:=am h;clear h)
        | (go_at_call 89;(with_reducible refine (make_any HS.out (pow_most (m - 1) (by omega)) ?s1 _ _ _ _ _ _ _ ?s2 ?s3).mono ?_);(case s1=>simp);(case s2=>first|exact HX.out|decide);(case s3=>decide);rintro e w' ⟨A,n,q,l,rfl,h⟩;replace HS:=am h;clear h)))
      all_goals go_ret
      all_goals (refine HS.out.fin ?_ (fun f hf=>by simp [hf]);first|exact pow_one _|exact pow_p (by have h1:=HM.out;have:=DP.out;unfold ms at h1;omega)|exact pow_q (by have h1:=HM.out;have:=DP.out;unfold ms at h1;omega))
theorem gen_all:∀ m,m≤15→GenC m
  | 0,h=>gen_step 0 h (fun q=>absurd q (by omega))
  | m+1,h=>gen_step (m+1) h (fun _=>gen_all m (by omega))
end Go.Proofs.YthmpgocaoccnaaaGreatDoor.PFnFresh.Dw
