/- PFnFreshx24, of the words and walks that the law FnFresh needs; made by this session's program out of printed texts. -/
import Derived.Test.YthmpgocaoccnaaaGreatDoorVFnFreshPx0
import Derived.Test.YthmpgocaoccnaaaGreatDoorVFnFreshPx16
import Derived.Test.YthmpgocaoccnaaaGreatDoorVFnFreshPx18
import Derived.Test.YthmpgocaoccnaaaGreatDoorVFnFreshPx22
namespace Go.Proofs.YthmpgocaoccnaaaGreatDoor.PFnFresh
open Go.RowKit Go.Proofs.YthmpgocaoccnaaaGreatDoorW.PrintWords Go.Proofs.YthmpgocaoccnaaaGreatDoorW.PrintLast Go.Proofs.YthmpgocaoccnaaaGreatDoorW.PrintMore
attribute [local go_sem] max2_int min2_int max_two min_two max_three min_three max_four min_four gtr_str
set_option linter.unusedVariables false
set_option linter.unusedSimpArgs false
def spec_l6Sort.l0:Nat -> List ByteArray -> ByteArray -> List ByteArray -> Bool -> Int -> Option (List ByteArray)
 | 0,_,_,_,_,_=>none
 | k+1,x0,x1,x5,x6,x7=>if x7<(x0.length:Int) then (if 0 <= x7 then (if (rdOf ByteArray.empty x0 x7).toList=x1.toList then (some x0) else (if x6=true then (if x5.length<8796093022208 then (spec_l6Sort.l0 k x0 x1 (x5++[rdOf ByteArray.empty x0 x7]) x6 (wrap64 (x7+1))) else (none)) else (if (Op.bytesLess x1.toList ((rdOf ByteArray.empty x0 x7).toList))=true then (if x5.length<8796093022208 then ((some (x5++[x1]:List ByteArray)).bind fun y730=>(if y730.length<8796093022208 then (spec_l6Sort.l0 k x0 x1 (y730++[rdOf ByteArray.empty x0 x7]) true (wrap64 (x7+1))) else (none))) else (none)) else (if x5.length<8796093022208 then (spec_l6Sort.l0 k x0 x1 (x5++[rdOf ByteArray.empty x0 x7]) x6 (wrap64 (x7+1))) else (none))))) else (none)) else (if x6=true then (some x5) else (if x5.length<8796093022208 then (some (x5++[x1])) else (none)))
def spec_l6Sort.f (k:Nat) (l0:List ByteArray) (a1:ByteArray):Option (List ByteArray):=spec_l6Sort.l0 k l0 a1 (([]:List ByteArray)) false 0
theorem spec_l6Sort.mono_l:∀ k,(∀ y0 y1 y2 y3 y4,LeO (spec_l6Sort.l0 k y0 y1 y2 y3 y4) (spec_l6Sort.l0 (k+1) y0 y1 y2 y3 y4))
 | 0=>fun _ _ _ _ _ r h=>by simp [spec_l6Sort.l0] at h
 | k+1=>by
  have ih0:=spec_l6Sort.mono_l k
  ·intro y0 y1 y2 y3 y4
   unfold spec_l6Sort.l0
   with_reducible repeat' first|exact ih0 _ _ _ _ _|exact lrz _|exact lnz _|refine liz ?_ ?_|refine lbz ?_ fun _=>?_
theorem spec_l6Sort.mono:∀ a0 a1 k,LeO (spec_l6Sort.f k a0 a1) (spec_l6Sort.f (k+1) a0 a1):=by
 intro a0 a1 k
 have ih0:=spec_l6Sort.mono_l k
 unfold spec_l6Sort.f
 with_reducible repeat' first|exact ih0 _ _ _ _ _|exact lrz _|exact lnz _|refine liz ?_ ?_|refine lbz ?_ fun _=>?_
set_option maxHeartbeats 8000000 in
set_option maxRecDepth 100000 in
theorem spec_l6Sort.calls (k:Nat) (P0_:Nat -> Prop) (u9000_:Value) (l0:List ByteArray) (a1:ByteArray) (r:List ByteArray) (w0 w:World) (hB:Below w0.heap.size w0 w) (ho0:Kd.R Kd.string 9 w w0.heap.size P0_ u9000_ l0) (h:spec_l6Sort.f k l0 a1=some r) :
  Calls Tryz.prog 81 #[u9000_,.string a1] w fun e w'=>∃ v0_:Value,e=.returned (v0_) /\ Kd.R Kd.string 9 w' w0.heap.size (fun k_=>(P0_ k_ \/ w.heap.size <= k_)) v0_ r /\ Below w0.heap.size w0 w' /\ Kept w w' (fun k_=>P0_ k_):=by
 have HO0:=am (show Kd.R Kd.string 9 w w0.heap.size (fun k_=>(P0_ k_ \/ w.heap.size <= k_)) u9000_ l0 from Kd.R_mono ho0 (fun k_ hk=>(.inl hk)))
 have HK:=am (Kept.refl w (fun k_=>P0_ k_))
 have HW0:=am hB.size
 have HB:=am hB
 clear hB
 have H:(spec_l6Sort.l0 k l0 a1 (([]:List ByteArray)) false 0)=some r:=h
 clear h
 obtain ⟨y718,hy718⟩:∃ y_:List ByteArray,y_=(([]:List ByteArray)):=⟨_,rfl⟩
 replace H:(spec_l6Sort.l0 k l0 a1 y718 false 0)=some r:=yz hy718 H
 have Ny718:=am hy718
 clear hy718
 have H':=am H
 clear H
 go_enter Tryz.func81,Tryz.ntmps81
 go_wp2_with (first|((with_reducible refine gate_dst (N:=8) rfl ?_);refine Kd.R_lit Kd.string _ 9 ?hg (N:=8) ?hd (xs:=([]:List ByteArray)) (inner:=[]) (ok:=fun _=>True) (okp:=fun _=>True) ?hr ?hp (fun _ hk=>hk) trivial (Below.refl _ _) (Nat.le_refl _) (by simp) ?_;(case hd=>rfl);(case hg=>rfl);(case hr=>exact vz);(case hp=>exact (Reps.none _ _));intro v719 w3 ho4 hb hg_ hnew_;clear hg_ hnew_;(first|rw [<- Ny718.out] at ho4|(simp only [Int.reduceToNat] at ho4;rw [<- Ny718.out] at ho4));have HO720:=am (Kd.R_lower (Kd.R_new' (Kd.R_newM (M:=fun k_=>(P0_ k_ \/ w.heap.size <= k_)) ho4 (by first|exact HK.out.1|exact (show Kept w _ (fun k_=>P0_ k_) from by repeat (first|(with_reducible first|exact HK.out|apply Kept.alloc|apply Kept.drewN|apply Kept.drew)|exact HK.out)).1) (fun k_ h_=>.inr h_)) (Kd.R_lt (rz HO0.out))) (below_size (bz0 HB.out)));replace HO0:=am (Kd.R_elder' (rz HO0.out) (Kd.R_base ho4) hb);replace HK:=am (Kept.below (S:=(fun k_=>P0_ k_)) (by repeat (first|(with_reducible first|exact HK.out|apply Kept.alloc|apply Kept.drewN|apply Kept.drew)|exact HK.out)) hb);replace HB:=bs (bz0 HB.out) hb;clear hb ho4))
 (try simp only [Act.put,sz1,sz2,sz3])
 go_loopg [5,6,7] k (fun kq v5 v6 v7 w'=>∃ (x5_1:List ByteArray) (x6_1:Bool) (x7_1:Int),v6=.bool x6_1 /\ v7=.int .i64 x7_1 /\ Aside0 (spec_l6Sort.l0 kq l0 a1 x5_1 x6_1 x7_1=some r) /\ Aside0 (kq <= k) /\ Aside0 (Kd.R Kd.string 9 w' w0.heap.size (fun k_=>(P0_ k_ \/ w.heap.size <= k_) /\ some k_≠(v5:Value).ownBlock) u9000_ l0) /\ Aside0 (Kd.R Kd.string 9 w' w0.heap.size (fun k_=>(P0_ k_ \/ w.heap.size <= k_) /\ some k_≠(u9000_:Value).ownBlock) v5 x5_1) /\ Aside0 (Kept w w' (fun k_=>P0_ k_)) /\ Aside0 (Below w0.heap.size w0 w'))
 case atStart=>exact ⟨(y718),(false),(0),ez,ez,H',⟨Nat.le_refl _⟩,⟨by refine rq ?_;exact HO0.out⟩,⟨by refine rq ?_;exact Kd.R_mono HO720.out (fun _ hk=>⟨hk.1.1,hk.2⟩)⟩,⟨by repeat (first|(with_reducible first|exact HK.out|apply Kept.alloc|apply Kept.drewN|apply Kept.drew)|exact HK.out)⟩,⟨(bz0 HB.out)⟩⟩
 case round =>
  clear H'
  try clear p2
  obtain ⟨x5_1,x6_1,x7_1,rfl,rfl,HA,HK1,HO_0,HO_5,HK,HB⟩:=hrel
  cases gk with
  | zero=>exact absurd HA.out (by simp [spec_l6Sort.l0])
  | succ k1 =>
   have H:=HA.out
   clear HA
   simp only [spec_l6Sort.l0] at H
   by_cases c5:x7_1<(l0.length:Int)
   ·rw [if_pos c5] at H
    have c5b0:=decide_eq_true c5
    clear c5
    replace H:=iz H
    obtain ⟨c6,H⟩:=H
    have c6b0:=decide_eq_true c6
    clear c6
    by_cases c7:(rdOf ByteArray.empty l0 x7_1).toList=a1.toList
    ·rw [if_pos c7] at H
     have c7b0:((rdOf ByteArray.empty l0 x7_1).toList == a1.toList)=true:=beq_iff_eq.mpr c7
     have c7b1:((rdOf ByteArray.empty l0 x7_1).toList != a1.toList)=false:=bne_eq_false_iff_eq.mpr c7
     clear c7
     obtain rfl:=Option.some.inj H
     obtain ⟨Ao8,co8,eo8⟩:=Kd.R_slice HO_0.out
     subst eo8
     have p724:0 <= (x7_1:Int):=oz
     have q724:x7_1<(l0.length:Int):=oz
     obtain ⟨ad724,e724,hx724_0⟩:=Kd.at_string (Kd.R_reads' HO_0.out).2.2 x7_1 p724 q724
     cases e724
     replace p724:=eq_true p724
     replace q724:=eq_true q724
     go_wp2
     go_ret
     exact ⟨_,gz,by refine rq ?_;exact Kd.R_mono HO_0.out (fun _ hk=>hk.1),(bz0 HB.out),by repeat (first|(with_reducible first|exact HK.out|apply Kept.alloc|apply Kept.drewN|apply Kept.drew)|exact HK.out)⟩
    ·rw [if_neg c7] at H
     have c7b0:((rdOf ByteArray.empty l0 x7_1).toList == a1.toList)=false:=beq_eq_false_iff_ne.mpr c7
     have c7b1:((rdOf ByteArray.empty l0 x7_1).toList != a1.toList)=true:=bne_iff_ne.mpr c7
     by_cases c9:x6_1=true
     ·subst c9
      have H1:=hp H
      clear H
      have H:=H1
      clear H1
      replace H:=iz H
      obtain ⟨c10,H⟩:=H
      have LMc10:=am c10
      clear c10
      obtain ⟨y726,hy726⟩:∃ y_:List ByteArray,y_=(x5_1++[rdOf ByteArray.empty l0 x7_1]):=⟨_,rfl⟩
      replace H:(spec_l6Sort.l0 k1 l0 a1 y726 true (wrap64 (x7_1+1)))=some r:=yz hy726 H
      have Ny726:=am hy726
      clear hy726
      have H':=am H
      clear H
      obtain ⟨Ao11,co11,eo11⟩:=Kd.R_slice HO_0.out
      subst eo11
      have p724:0 <= (x7_1:Int):=oz
      have q724:x7_1<(l0.length:Int):=oz
      obtain ⟨ad724,e724,hx724_0⟩:=Kd.at_string (Kd.R_reads' HO_0.out).2.2 x7_1 p724 q724
      cases e724
      replace p724:=eq_true p724
      replace q724:=eq_true q724
      have p725:0 <= (x7_1:Int):=oz
      have q725:x7_1<(l0.length:Int):=oz
      obtain ⟨ad725,e725,hx725_0⟩:=Kd.at_string (Kd.R_reads' HO_0.out).2.2 x7_1 p725 q725
      obtain rfl:ad724=ad725:=(by injection e725)
      replace p725:=eq_true p725
      replace q725:=eq_true q725
      go_wp2_with (first|((with_reducible refine gate_builtin (b:=.append) (xs:=#[.tmp 36,.tmp 41]) rfl ?_);at_builtin;refine Kd.R_append Kd.string (w0:=w0) w0.heap.size rfl (.tmp 36) (.tmp 41) 42 9 (.string ⟨#[]⟩) 16 rfl Tryz.underlying42 info9 rfl (by decide) (by omega) u5 x5_1 (rdOf ByteArray.empty l0 x7_1) [.string (rdOf ByteArray.empty l0 x7_1)] (fun k_=>(P0_ k_ \/ w.heap.size <= k_) /\ some k_≠(.slice (some ad724) l0.length co11:Value).ownBlock) (fun _=>False) rfl rfl ?aP (fun _ hk=>hk.elim) ?aF ?aO ?aB ?aS ?aL ?_;(case aP=>exact rfl);(case aB=>exact (bz0 HB.out));(case aF=>exact (fun k_ hk=>⟨(.inr (Nat.le_trans (by first|exact HK.out.1|exact (show Kept w _ (fun k_=>P0_ k_) from by repeat (first|(with_reducible first|exact HK.out|apply Kept.alloc|apply Kept.drewN|apply Kept.drew)|exact HK.out)).1) hk)),Kd.fresh' (Kd.R_lt (rz HO_0.out)) k_ hk⟩));(case aO=>exact (rz HO_5.out));(case aS=>exact (below_size (bz0 HB.out)));(case aL=>have:=LMc10.out;omega);intro v727 w12 ho hb hg hat;rw [<- Ny726.out] at ho;have n0_:=am (Kd.R_after (ok:=(fun k_=>(P0_ k_ \/ w.heap.size <= k_))) (rz HO_0.out) hg hat);have n1_:=am (hb);have n2_:=am (Kept.of_grown (S:=(fun k_=>P0_ k_)) hg (by repeat (first|(with_reducible first|exact HK.out|apply Kept.alloc|apply Kept.drewN|apply Kept.drew)|exact HK.out)) (fun k_ e_=>(HO_5.out.1 k_ e_).1));have n3_:=am (ho);clear HO_0;clear HB;clear HK;clear HO_5;have HO_0:=n0_;have HB:=n1_;have HK:=n2_;have HO728:=n3_;clear n0_ n1_ n2_ n3_;clear ho hb hg hat))
      go_roundg k1
      case measure=>have:=HK1.out;omega
      case rel=>exact ⟨(y726),(true),(wrap64 (x7_1+1)),ez,ez,H',⟨by have:=HK1.out;omega⟩,⟨by refine rq ?_;exact HO_0.out⟩,⟨by refine rq ?_;exact HO728.out⟩,⟨by repeat (first|(with_reducible first|exact HK.out|apply Kept.alloc|apply Kept.drewN|apply Kept.drew)|exact HK.out)⟩,⟨(bz0 HB.out)⟩⟩
     ·replace c9:=Bool.eq_false_iff.mpr c9
      subst c9
      have H1:=hq H
      clear H
      have H:=H1
      clear H1
      by_cases c13:(Op.bytesLess a1.toList ((rdOf ByteArray.empty l0 x7_1).toList))=true
      ·rw [if_pos c13] at H
       have c13b0:(Op.bytesLess a1.toList ((rdOf ByteArray.empty l0 x7_1).toList))=true:=c13
       clear c13
       replace H:=iz H
       obtain ⟨c14,H⟩:=H
       have LMc14:=am c14
       clear c14
       obtain ⟨y730,hy730⟩:∃ y_:List ByteArray,y_=(x5_1++[a1]):=⟨_,rfl⟩
       replace H:(if y730.length<8796093022208 then (spec_l6Sort.l0 k1 l0 a1 (y730++[rdOf ByteArray.empty l0 x7_1]) true (wrap64 (x7_1+1))) else (none))=some r:=yz hy730 H
       have Ny730:=am hy730
       clear hy730
       replace H:=iz H
       obtain ⟨c15,H⟩:=H
       have LMc15:=am c15
       clear c15
       obtain ⟨y734,hy734⟩:∃ y_:List ByteArray,y_=(y730++[rdOf ByteArray.empty l0 x7_1]):=⟨_,rfl⟩
       replace H:(spec_l6Sort.l0 k1 l0 a1 y734 true (wrap64 (x7_1+1)))=some r:=yz hy734 H
       have Ny734:=am hy734
       clear hy734
       have H':=am H
       clear H
       obtain ⟨Ao16,co16,eo16⟩:=Kd.R_slice HO_0.out
       subst eo16
       have p724:0 <= (x7_1:Int):=oz
       have q724:x7_1<(l0.length:Int):=oz
       obtain ⟨ad724,e724,hx724_0⟩:=Kd.at_string (Kd.R_reads' HO_0.out).2.2 x7_1 p724 q724
       cases e724
       replace p724:=eq_true p724
       replace q724:=eq_true q724
       have p729:0 <= (x7_1:Int):=oz
       have q729:x7_1<(l0.length:Int):=oz
       obtain ⟨ad729,e729,hx729_0⟩:=Kd.at_string (Kd.R_reads' HO_0.out).2.2 x7_1 p729 q729
       obtain rfl:ad724=ad729:=(by injection e729)
       replace p729:=eq_true p729
       replace q729:=eq_true q729
       go_wp2_with (first|((with_reducible refine gate_builtin (b:=.append) (xs:=#[.tmp 32,.tmp 34]) rfl ?_);at_builtin;refine Kd.R_append Kd.string (w0:=w0) w0.heap.size rfl (.tmp 32) (.tmp 34) 42 9 (.string ⟨#[]⟩) 16 rfl Tryz.underlying42 info9 rfl (by decide) (by omega) u5 x5_1 a1 [.string a1] (fun k_=>(P0_ k_ \/ w.heap.size <= k_) /\ some k_≠(.slice (some ad724) l0.length co16:Value).ownBlock) (fun _=>False) rfl rfl ?aP (fun _ hk=>hk.elim) ?aF ?aO ?aB ?aS ?aL ?_;(case aP=>exact rfl);(case aB=>exact (bz0 HB.out));(case aF=>exact (fun k_ hk=>⟨(.inr (Nat.le_trans (by first|exact HK.out.1|exact (show Kept w _ (fun k_=>P0_ k_) from by repeat (first|(with_reducible first|exact HK.out|apply Kept.alloc|apply Kept.drewN|apply Kept.drew)|exact HK.out)).1) hk)),Kd.fresh' (Kd.R_lt (rz HO_0.out)) k_ hk⟩));(case aO=>exact (rz HO_5.out));(case aS=>exact (below_size (bz0 HB.out)));(case aL=>have:=LMc14.out;omega);intro v731 w17 ho hb hg hat;rw [<- Ny730.out] at ho;have n0_:=am (Kd.R_after (ok:=(fun k_=>(P0_ k_ \/ w.heap.size <= k_))) (rz HO_0.out) hg hat);have n1_:=am (hb);have n2_:=am (Kept.of_grown (S:=(fun k_=>P0_ k_)) hg (by repeat (first|(with_reducible first|exact HK.out|apply Kept.alloc|apply Kept.drewN|apply Kept.drew)|exact HK.out)) (fun k_ e_=>(HO_5.out.1 k_ e_).1));have n3_:=am (ho);clear HO_0;clear HB;clear HK;clear HO_5;have HO_0:=n0_;have HB:=n1_;have HK:=n2_;have HO732:=n3_;clear n0_ n1_ n2_ n3_;clear ho hb hg hat;have p733:0 <= (x7_1:Int):=oz;have q733:x7_1<(l0.length:Int):=oz;obtain ⟨ad733,e733,hx733_0⟩:=Kd.at_string (Kd.R_reads' HO_0.out).2.2 x7_1 p733 q733;obtain rfl:ad724=ad733:=(by injection e733);replace p733:=eq_true p733;replace q733:=eq_true q733)|((with_reducible refine gate_builtin (b:=.append) (xs:=#[.tmp 36,.tmp 41]) rfl ?_);at_builtin;refine Kd.R_append Kd.string (w0:=w0) w0.heap.size rfl (.tmp 36) (.tmp 41) 42 9 (.string ⟨#[]⟩) 16 rfl Tryz.underlying42 info9 rfl (by decide) (by omega) v731 y730 (rdOf ByteArray.empty l0 x7_1) [.string (rdOf ByteArray.empty l0 x7_1)] (fun k_=>(P0_ k_ \/ w.heap.size <= k_) /\ some k_≠(.slice (some ad724) l0.length co16:Value).ownBlock) (fun _=>False) rfl rfl ?aP (fun _ hk=>hk.elim) ?aF ?aO ?aB ?aS ?aL ?_;(case aP=>exact rfl);(case aB=>exact (bz0 HB.out));(case aF=>exact (fun k_ hk=>⟨(.inr (Nat.le_trans (by first|exact HK.out.1|exact (show Kept w _ (fun k_=>P0_ k_) from by repeat (first|(with_reducible first|exact HK.out|apply Kept.alloc|apply Kept.drewN|apply Kept.drew)|exact HK.out)).1) hk)),Kd.fresh' (Kd.R_lt (rz HO_0.out)) k_ hk⟩));(case aO=>exact (rz HO732.out));(case aS=>exact (below_size (bz0 HB.out)));(case aL=>have:=LMc15.out;omega);intro v735 w18 ho hb hg hat;rw [<- Ny734.out] at ho;have n0_:=am (Kd.R_after (ok:=(fun k_=>(P0_ k_ \/ w.heap.size <= k_))) (rz HO_0.out) hg hat);have n1_:=am (hb);have n2_:=am (Kept.of_grown (S:=(fun k_=>P0_ k_)) hg (by repeat (first|(with_reducible first|exact HK.out|apply Kept.alloc|apply Kept.drewN|apply Kept.drew)|exact HK.out)) (fun k_ e_=>(HO732.out.1 k_ e_).1));have n3_:=am (ho);clear HO_0;clear HB;clear HK;clear HO732;have HO_0:=n0_;have HB:=n1_;have HK:=n2_;have HO736:=n3_;clear n0_ n1_ n2_ n3_;clear ho hb hg hat))
       go_roundg k1
       case measure=>have:=HK1.out;omega
       case rel=>exact ⟨(y734),(true),(wrap64 (x7_1+1)),ez,ez,H',⟨by have:=HK1.out;omega⟩,⟨by refine rq ?_;exact HO_0.out⟩,⟨by refine rq ?_;exact HO736.out⟩,⟨by repeat (first|(with_reducible first|exact HK.out|apply Kept.alloc|apply Kept.drewN|apply Kept.drew)|exact HK.out)⟩,⟨(bz0 HB.out)⟩⟩
      ·rw [if_neg c13] at H
       have c13b0:(Op.bytesLess a1.toList ((rdOf ByteArray.empty l0 x7_1).toList))=false:=by simpa using c13
       clear c13
       replace H:=iz H
       obtain ⟨c19,H⟩:=H
       have LMc19:=am c19
       clear c19
       obtain ⟨y738,hy738⟩:∃ y_:List ByteArray,y_=(x5_1++[rdOf ByteArray.empty l0 x7_1]):=⟨_,rfl⟩
       replace H:(spec_l6Sort.l0 k1 l0 a1 y738 false (wrap64 (x7_1+1)))=some r:=yz hy738 H
       have Ny738:=am hy738
       clear hy738
       have H':=am H
       clear H
       obtain ⟨Ao20,co20,eo20⟩:=Kd.R_slice HO_0.out
       subst eo20
       have p724:0 <= (x7_1:Int):=oz
       have q724:x7_1<(l0.length:Int):=oz
       obtain ⟨ad724,e724,hx724_0⟩:=Kd.at_string (Kd.R_reads' HO_0.out).2.2 x7_1 p724 q724
       cases e724
       replace p724:=eq_true p724
       replace q724:=eq_true q724
       have p729:0 <= (x7_1:Int):=oz
       have q729:x7_1<(l0.length:Int):=oz
       obtain ⟨ad729,e729,hx729_0⟩:=Kd.at_string (Kd.R_reads' HO_0.out).2.2 x7_1 p729 q729
       obtain rfl:ad724=ad729:=(by injection e729)
       replace p729:=eq_true p729
       replace q729:=eq_true q729
       have p737:0 <= (x7_1:Int):=oz
       have q737:x7_1<(l0.length:Int):=oz
       obtain ⟨ad737,e737,hx737_0⟩:=Kd.at_string (Kd.R_reads' HO_0.out).2.2 x7_1 p737 q737
       obtain rfl:ad724=ad737:=(by injection e737)
       replace p737:=eq_true p737
       replace q737:=eq_true q737
       go_wp2_with (first|((with_reducible refine gate_builtin (b:=.append) (xs:=#[.tmp 36,.tmp 41]) rfl ?_);at_builtin;refine Kd.R_append Kd.string (w0:=w0) w0.heap.size rfl (.tmp 36) (.tmp 41) 42 9 (.string ⟨#[]⟩) 16 rfl Tryz.underlying42 info9 rfl (by decide) (by omega) u5 x5_1 (rdOf ByteArray.empty l0 x7_1) [.string (rdOf ByteArray.empty l0 x7_1)] (fun k_=>(P0_ k_ \/ w.heap.size <= k_) /\ some k_≠(.slice (some ad724) l0.length co20:Value).ownBlock) (fun _=>False) rfl rfl ?aP (fun _ hk=>hk.elim) ?aF ?aO ?aB ?aS ?aL ?_;(case aP=>exact rfl);(case aB=>exact (bz0 HB.out));(case aF=>exact (fun k_ hk=>⟨(.inr (Nat.le_trans (by first|exact HK.out.1|exact (show Kept w _ (fun k_=>P0_ k_) from by repeat (first|(with_reducible first|exact HK.out|apply Kept.alloc|apply Kept.drewN|apply Kept.drew)|exact HK.out)).1) hk)),Kd.fresh' (Kd.R_lt (rz HO_0.out)) k_ hk⟩));(case aO=>exact (rz HO_5.out));(case aS=>exact (below_size (bz0 HB.out)));(case aL=>have:=LMc19.out;omega);intro v739 w21 ho hb hg hat;rw [<- Ny738.out] at ho;have n0_:=am (Kd.R_after (ok:=(fun k_=>(P0_ k_ \/ w.heap.size <= k_))) (rz HO_0.out) hg hat);have n1_:=am (hb);have n2_:=am (Kept.of_grown (S:=(fun k_=>P0_ k_)) hg (by repeat (first|(with_reducible first|exact HK.out|apply Kept.alloc|apply Kept.drewN|apply Kept.drew)|exact HK.out)) (fun k_ e_=>(HO_5.out.1 k_ e_).1));have n3_:=am (ho);clear HO_0;clear HB;clear HK;clear HO_5;have HO_0:=n0_;have HB:=n1_;have HK:=n2_;have HO740:=n3_;clear n0_ n1_ n2_ n3_;clear ho hb hg hat))
       go_roundg k1
       case measure=>have:=HK1.out;omega
       case rel=>exact ⟨(y738),(false),(wrap64 (x7_1+1)),ez,ez,H',⟨by have:=HK1.out;omega⟩,⟨by refine rq ?_;exact HO_0.out⟩,⟨by refine rq ?_;exact HO740.out⟩,⟨by repeat (first|(with_reducible first|exact HK.out|apply Kept.alloc|apply Kept.drewN|apply Kept.drew)|exact HK.out)⟩,⟨(bz0 HB.out)⟩⟩
   ·rw [if_neg c5] at H
    have c5b0:=decide_eq_false c5
    clear c5
    by_cases c22:x6_1=true
    ·subst c22
     have H1:=hp H
     clear H
     have H:=H1
     clear H1
     obtain rfl:=Option.some.inj H
     obtain ⟨Ao23,co23,eo23⟩:=Kd.R_slice HO_0.out
     subst eo23
     go_wp2
     go_ret
     exact ⟨_,gz,by refine rq ?_;exact Kd.R_mono HO_5.out (fun _ hk=>hk.1),(bz0 HB.out),by repeat (first|(with_reducible first|exact HK.out|apply Kept.alloc|apply Kept.drewN|apply Kept.drew)|exact HK.out)⟩
    ·replace c22:=Bool.eq_false_iff.mpr c22
     subst c22
     have H1:=hq H
     clear H
     have H:=H1
     clear H1
     replace H:=iz H
     obtain ⟨c24,H⟩:=H
     have LMc24:=am c24
     clear c24
     obtain ⟨y721,hy721⟩:∃ y_:List ByteArray,y_=(x5_1++[a1]):=⟨_,rfl⟩
     replace H:(some y721)=some r:=yz hy721 H
     have Ny721:=am hy721
     clear hy721
     obtain rfl:=Option.some.inj H
     obtain ⟨Ao25,co25,eo25⟩:=Kd.R_slice HO_0.out
     subst eo25
     go_wp2_with (first|((with_reducible refine gate_builtin (b:=.append) (xs:=#[.tmp 45,.tmp 47]) rfl ?_);at_builtin;refine Kd.R_append Kd.string (w0:=w0) w0.heap.size rfl (.tmp 45) (.tmp 47) 42 9 (.string ⟨#[]⟩) 16 rfl Tryz.underlying42 info9 rfl (by decide) (by omega) u5 x5_1 a1 [.string a1] (fun k_=>(P0_ k_ \/ w.heap.size <= k_) /\ some k_≠(.slice Ao25 l0.length co25:Value).ownBlock) (fun _=>False) rfl rfl ?aP (fun _ hk=>hk.elim) ?aF ?aO ?aB ?aS ?aL ?_;(case aP=>exact rfl);(case aB=>exact (bz0 HB.out));(case aF=>exact (fun k_ hk=>⟨(.inr (Nat.le_trans (by first|exact HK.out.1|exact (show Kept w _ (fun k_=>P0_ k_) from by repeat (first|(with_reducible first|exact HK.out|apply Kept.alloc|apply Kept.drewN|apply Kept.drew)|exact HK.out)).1) hk)),Kd.fresh' (Kd.R_lt (rz HO_0.out)) k_ hk⟩));(case aO=>exact (rz HO_5.out));(case aS=>exact (below_size (bz0 HB.out)));(case aL=>have:=LMc24.out;omega);intro v722 w26 ho hb hg hat;rw [<- Ny721.out] at ho;have n0_:=am (Kd.R_after (ok:=(fun k_=>(P0_ k_ \/ w.heap.size <= k_))) (rz HO_0.out) hg hat);have n1_:=am (hb);have n2_:=am (Kept.of_grown (S:=(fun k_=>P0_ k_)) hg (by repeat (first|(with_reducible first|exact HK.out|apply Kept.alloc|apply Kept.drewN|apply Kept.drew)|exact HK.out)) (fun k_ e_=>(HO_5.out.1 k_ e_).1));have n3_:=am (ho);clear HO_0;clear HB;clear HK;clear HO_5;have HO_0:=n0_;have HB:=n1_;have HK:=n2_;have HO723:=n3_;clear n0_ n1_ n2_ n3_;clear ho hb hg hat))
     go_ret
     exact ⟨_,gz,by refine rq ?_;exact Kd.R_mono HO723.out (fun _ hk=>hk.1),(bz0 HB.out),by repeat (first|(with_reducible first|exact HK.out|apply Kept.alloc|apply Kept.drewN|apply Kept.drew)|exact HK.out)⟩
theorem bind_node (a b:Int) (w:World):Sem.run Tryz.prog (Instr.field 30 (.agg #[.int .i64 a,.int .i64 b]) 0) w=.ok (.int .i64 a) w:=by
 have h:=Tryz.underlying30
 simp [Instr.field,asAgg,go_sem,h]
attribute [local go_sem] bind_node
mutual
def spec_FreeNames.l0:Nat -> List (S45) -> List ByteArray -> Int -> Option (List ByteArray)
 | 0,_,_,_=>none
 | k+1,x0,x3,x4=>if x4<(x0.length:Int) then ((spec_NodesOk.f k x0).bind fun t744=>(spec_FreeNames.j1 k x0 x3 x4 t744)) else (spec_FreeNames.j1 k x0 x3 x4 false)
def spec_FreeNames.j1:Nat -> List (S45) -> List ByteArray -> Int -> Bool -> Option (List ByteArray)
 | 0,_,_,_,_=>none
 | k+1,x0,x3,x4,x13=>if x13=true then (if 0 <= x4 then (if x4<(x0.length:Int) then (if ((rd_T45 x0 x4).f0)=1 then ((spec_BinderOf.f k x0 x4).bind fun bt746=>(if bt746.1<0 then ((spec_l6Sort.f k x3 ((rd_T45 x0 x4).f5)).bind fun t749=>(spec_FreeNames.l0 k x0 t749 (wrap64 (x4+1)))) else (spec_FreeNames.l0 k x0 x3 (wrap64 (x4+1))))) else (spec_FreeNames.l0 k x0 x3 (wrap64 (x4+1)))) else (none)) else (none)) else (some x3)
end
def spec_FreeNames.f (k:Nat) (l0:List (S45)):Option (List ByteArray):=spec_FreeNames.l0 k l0 (([]:List ByteArray)) 0
theorem spec_FreeNames.mono_l:∀ k,(∀ y0 y1 y2,LeO (spec_FreeNames.l0 k y0 y1 y2) (spec_FreeNames.l0 (k+1) y0 y1 y2)) /\ (∀ y0 y1 y2 y3,LeO (spec_FreeNames.j1 k y0 y1 y2 y3) (spec_FreeNames.j1 (k+1) y0 y1 y2 y3))
 | 0=>⟨fun _ _ _ r h=>by simp [spec_FreeNames.l0] at h,fun _ _ _ _ r h=>by simp [spec_FreeNames.j1] at h⟩
 | k+1=>by
  obtain ⟨ih0,ih1⟩:=spec_FreeNames.mono_l k
  refine ⟨?_,?_⟩
  ·intro y0 y1 y2
   unfold spec_FreeNames.l0
   with_reducible repeat' first|exact ih0 _ _ _|exact ih1 _ _ _ _|exact spec_BinderOf.mono _ _ _|exact spec_NodesOk.mono _ _|exact spec_l6Sort.mono _ _ _|exact lrz _|exact lnz _|refine liz ?_ ?_|refine lbz ?_ fun _=>?_
  ·intro y0 y1 y2 y3
   unfold spec_FreeNames.j1
   with_reducible repeat' first|exact ih0 _ _ _|exact ih1 _ _ _ _|exact spec_BinderOf.mono _ _ _|exact spec_NodesOk.mono _ _|exact spec_l6Sort.mono _ _ _|exact lrz _|exact lnz _|refine liz ?_ ?_|refine lbz ?_ fun _=>?_
theorem spec_FreeNames.mono:∀ a0 k,LeO (spec_FreeNames.f k a0) (spec_FreeNames.f (k+1) a0):=by
 intro a0 k
 obtain ⟨ih0,ih1⟩:=spec_FreeNames.mono_l k
 unfold spec_FreeNames.f
 with_reducible repeat' first|exact ih0 _ _ _|exact ih1 _ _ _ _|exact spec_BinderOf.mono _ _ _|exact spec_NodesOk.mono _ _|exact spec_l6Sort.mono _ _ _|exact lrz _|exact lnz _|refine liz ?_ ?_|refine lbz ?_ fun _=>?_
set_option maxHeartbeats 8000000 in
set_option maxRecDepth 100000 in
theorem spec_FreeNames.calls (k:Nat) (A0:Option Addr) (c0:Nat) (l0:List (S45)) (r:List ByteArray) (w:World) (hr0:Kd.C k45 w A0 l0.length l0) (hc0:l0.length <= c0) (h:spec_FreeNames.f k l0=some r) :
  Calls Tryz.prog 62 #[.slice A0 l0.length c0] w fun e w'=>∃ v0_:Value,e=.returned (v0_) /\ Kd.R Kd.string 9 w' w.heap.size (fun _=>True) v0_ r /\ Below w.heap.size w w':=by
 have HR0:=am hr0
 have HC0:=am hc0
 clear hr0 hc0
 have HB:=am (Below.refl w.heap.size w)
 have H:(spec_FreeNames.l0 k l0 (([]:List ByteArray)) 0)=some r:=h
 clear h
 obtain ⟨y741,hy741⟩:∃ y_:List ByteArray,y_=(([]:List ByteArray)):=⟨_,rfl⟩
 replace H:(spec_FreeNames.l0 k l0 y741 0)=some r:=yz hy741 H
 have Ny741:=am hy741
 clear hy741
 have H':=am H
 clear H
 go_enter Tryz.func62,Tryz.ntmps62
 go_wp2_with (first|((with_reducible refine gate_dst (N:=5) rfl ?_);refine Kd.R_lit Kd.string _ 9 ?hg (N:=5) ?hd (xs:=([]:List ByteArray)) (inner:=[]) (ok:=fun _=>True) (okp:=fun _=>True) ?hr ?hp (fun _ hk=>hk) trivial (Below.refl _ _) (Nat.le_refl _) (by simp) ?_;(case hd=>rfl);(case hg=>rfl);(case hr=>exact vz);(case hp=>exact (Reps.none _ _));intro v742 w2 ho3 hb hg_ hnew_;clear hg_ hnew_;(first|rw [<- Ny741.out] at ho3|(simp only [Int.reduceToNat] at ho3;rw [<- Ny741.out] at ho3));have HO743:=am (Kd.R_lower ho3 (below_size (bz0 HB.out)));replace HB:=bs (bz0 HB.out) hb;clear hb ho3))
 (try simp only [Act.put,sz1,sz2,sz3])
 go_loopg [3,4] k (fun kq v3 v4 w'=>∃ (x3_1:List ByteArray) (x4_1:Int),v4=.int .i64 x4_1 /\ Aside0 (spec_FreeNames.l0 kq l0 x3_1 x4_1=some r) /\ Aside0 (kq <= k) /\ Aside0 (Kd.R Kd.string 9 w' w.heap.size (fun _=>True) v3 x3_1) /\ Aside0 (Below w.heap.size w w'))
 case atStart=>exact ⟨(y741),(0),ez,H',⟨Nat.le_refl _⟩,⟨by refine rq ?_;exact HO743.out⟩,⟨(bz0 HB.out)⟩⟩
 case round =>
  clear H'
  try clear p2
  obtain ⟨x3_1,x4_1,rfl,HA,HK1,HO_3,HB⟩:=hrel
  cases gk with
  | zero=>exact absurd HA.out (by simp [spec_FreeNames.l0])
  | succ k1 =>
   have H:=HA.out
   clear HA
   simp only [spec_FreeNames.l0] at H
   have HC4:=am H
   clear H
   go_upto_region 3 with (fail)
   go_cut [13] (fun v13 wc=>∃ (kq:Nat) (x13_3:Bool),v13=.bool x13_3 /\ Aside0 (spec_FreeNames.j1 kq l0 x3_1 x4_1 x13_3=some r) /\ Aside0 (kq <= k1) /\ Aside0 (Kd.R Kd.string 9 wc w.heap.size (fun _=>True) u3 x3_1) /\ Aside0 (Below w.heap.size w wc))
   case first =>
    have H:=HC4.out
    clear HC4
    by_cases c5:x4_1<(l0.length:Int)
    ·rw [if_pos c5] at H
     have c5b0:=decide_eq_true c5
     clear c5
     (first|rw [c5b0]|(simp only [i64_w,i32_w];rw [c5b0])|skip)
     replace H:=bi H
     obtain ⟨t744,A60,H⟩:=H
     try dsimp only at H
     have A6:=am A60
     clear A60
     have H':=am H
     clear H
     go_wp2_with (first|(go_at_call 15;(with_reducible refine (spec_NodesOk.calls k1 _ _ l0 t744 _ ?side1 ?side2 A6.out).mono ?_);(case side1=>exact cz (Kd.C_below HR0.out HB.out));(case side2=>exact HC0.out);rintro e w7 ⟨rfl,hb⟩;replace HO_3:=qz HO_3 hb;replace HB:=bs (bz0 HB.out) hb;(try clear hb);(try clear hi)))
     go_meet
     case rel=>exact ⟨_,(t744),ez,H',⟨by have:=HK1.out;first|omega|exact Nat.le_refl _⟩,⟨by refine rq ?_;exact HO_3.out⟩,⟨(bz0 HB.out)⟩⟩
    ·rw [if_neg c5] at H
     have c5b0:=decide_eq_false c5
     clear c5
     (first|rw [c5b0]|(simp only [i64_w,i32_w];rw [c5b0])|skip)
     have H':=am H
     clear H
     go_wp2
     go_meet
     case rel=>exact ⟨_,(false),ez,H',⟨by have:=HK1.out;first|omega|exact Nat.le_refl _⟩,⟨by refine rq ?_;exact HO_3.out⟩,⟨(bz0 HB.out)⟩⟩
   case rest =>
    clear HC4
    try clear p2
    try clear c5
    try clear c5b0
    try clear c6
    try clear p2
    obtain ⟨kq,x13_3,rfl,HA,HJ3,HO_3,HB⟩:=hcut
    cases kq with
    | zero=>exact absurd HA.out (by simp [spec_FreeNames.j1])
    | succ kj3 =>
     have H:=HA.out
     clear HA
     simp only [spec_FreeNames.j1] at H
     by_cases c8:x13_3=true
     ·subst c8
      have H1:=hp H
      clear H
      have H:=H1
      clear H1
      replace H:=iz H
      obtain ⟨c9,H⟩:=H
      have c9b0:=decide_eq_true c9
      clear c9
      replace H:=iz H
      obtain ⟨c10,H⟩:=H
      have c10b0:=decide_eq_true c10
      clear c10
      by_cases c11:((rd_T45 l0 x4_1).f0)=1
      ·rw [if_pos c11] at H
       have c11b0:(((rd_T45 l0 x4_1).f0) == 1)=true:=beq_iff_eq.mpr c11
       have c11b1:(((rd_T45 l0 x4_1).f0) != 1)=false:=bne_eq_false_iff_eq.mpr c11
       clear c11
       replace H:=bi H
       obtain ⟨⟨t746,t747⟩,A120,H⟩:=H
       try dsimp only at H
       have A12:=am A120
       clear A120
       by_cases c13:t746<0
       ·rw [if_pos c13] at H
        have c13b0:=decide_eq_true c13
        clear c13
        replace H:=bi H
        obtain ⟨t749,A140,H⟩:=H
        try dsimp only at H
        have A14:=am A140
        clear A140
        have H':=am H
        clear H
        have p745:0 <= (x4_1:Int):=oz
        have q745:x4_1<(l0.length:Int):=oz
        obtain ⟨ad745,e745,hx745_0,hx745_1,hx745_2,hx745_3,hx745_4,hx745_5,hx745_6⟩:=at_T45 (Kd.C_below HR0.out HB.out) x4_1 p745 q745
        cases e745
        replace p745:=eq_true p745
        replace q745:=eq_true q745
        go_wp2_with (first|(go_at_call 51;(with_reducible refine (spec_BinderOf.calls kj3 _ _ l0 x4_1 t746 t747 _ ?side1 ?side2 A12.out).mono ?_);(case side1=>exact cz (Kd.C_below HR0.out HB.out));(case side2=>exact HC0.out);rintro e w15 ⟨rfl,hb⟩;replace HO_3:=qz HO_3 hb;replace HB:=bs (bz0 HB.out) hb;(try clear hb);have p748:0 <= (x4_1:Int):=oz;have q748:x4_1<(l0.length:Int):=oz;obtain ⟨ad748,e748,hx748_0,hx748_1,hx748_2,hx748_3,hx748_4,hx748_5,hx748_6⟩:=at_T45 HR0.out x4_1 p748 q748;obtain rfl:ad745=ad748:=(by injection e748);replace hx748_0:=hz HB.out hx748_0;replace hx748_1:=hz HB.out hx748_1;replace hx748_2:=hz HB.out hx748_2;replace hx748_3:=hz HB.out hx748_3;replace hx748_4:=hz HB.out hx748_4;replace hx748_5:=hz HB.out hx748_5;replace hx748_6:=hz HB.out hx748_6;replace p748:=eq_true p748;replace q748:=eq_true q748;obtain ⟨Ao16,co16,eo16⟩:=Kd.R_slice HO_3.out;subst eo16)|((with_reducible refine gate_callee (f:=81) rfl ?_);refine goesL_ (some 35) rfl rfl Tryz.func81 kr rfl #[.slice Ao16 x3_1.length co16,.string ((rd_T45 l0 x4_1).f5)] rfl lz ?_;(with_reducible refine (spec_l6Sort.calls kj3 (fun k_=>some k_=(.slice Ao16 x3_1.length co16:Value).ownBlock) (.slice Ao16 x3_1.length co16) x3_1 ((rd_T45 l0 x4_1).f5) t749 w _ ?side1 ?side2 A14.out).mono ?_);(case side1=>repeat (first|(with_reducible first|exact HB.out|apply below_alloc|apply pw_below_drewN|apply below_drew1)|exact HB.out));(case side2=>exact Kd.R_tight rfl HO_3.out);rintro e w17 ⟨v750,rfl,ho0,hb,hkp⟩;refine ⟨_,rfl,?_⟩;have n0_:=am (Kd.R_mono (ok':=fun k_=>True) ho0 (fun k_ hk_=>trivial));have n1_:=am (hb);clear HB;clear HO_3;have HO751:=n0_;have HB:=n1_;clear n0_ n1_;(try clear hb);(try clear hkp);(try clear ho0)))
        go_roundg kj3
        case measure=>have:=HK1.out;have:=HJ3.out;omega
        case rel=>exact ⟨(t749),(wrap64 (x4_1+1)),ez,H',⟨by have:=HK1.out;have:=HJ3.out;omega⟩,⟨by refine rq ?_;exact HO751.out⟩,⟨(bz0 HB.out)⟩⟩
       ·rw [if_neg c13] at H
        have c13b0:=decide_eq_false c13
        clear c13
        have H':=am H
        clear H
        have p745:0 <= (x4_1:Int):=oz
        have q745:x4_1<(l0.length:Int):=oz
        obtain ⟨ad745,e745,hx745_0,hx745_1,hx745_2,hx745_3,hx745_4,hx745_5,hx745_6⟩:=at_T45 (Kd.C_below HR0.out HB.out) x4_1 p745 q745
        cases e745
        replace p745:=eq_true p745
        replace q745:=eq_true q745
        go_wp2_with (first|(go_at_call 51;(with_reducible refine (spec_BinderOf.calls kj3 _ _ l0 x4_1 t746 t747 _ ?side1 ?side2 A12.out).mono ?_);(case side1=>exact cz (Kd.C_below HR0.out HB.out));(case side2=>exact HC0.out);rintro e w18 ⟨rfl,hb⟩;replace HO_3:=qz HO_3 hb;replace HB:=bs (bz0 HB.out) hb;(try clear hb);(try clear hi)))
        go_roundg kj3
        case measure=>have:=HK1.out;have:=HJ3.out;omega
        case rel=>exact ⟨(x3_1),(wrap64 (x4_1+1)),ez,H',⟨by have:=HK1.out;have:=HJ3.out;omega⟩,⟨by refine rq ?_;exact HO_3.out⟩,⟨(bz0 HB.out)⟩⟩
      ·rw [if_neg c11] at H
       have c11b0:(((rd_T45 l0 x4_1).f0) == 1)=false:=beq_eq_false_iff_ne.mpr c11
       have c11b1:(((rd_T45 l0 x4_1).f0) != 1)=true:=bne_iff_ne.mpr c11
       have H':=am H
       clear H
       have p745:0 <= (x4_1:Int):=oz
       have q745:x4_1<(l0.length:Int):=oz
       obtain ⟨ad745,e745,hx745_0,hx745_1,hx745_2,hx745_3,hx745_4,hx745_5,hx745_6⟩:=at_T45 (Kd.C_below HR0.out HB.out) x4_1 p745 q745
       cases e745
       replace p745:=eq_true p745
       replace q745:=eq_true q745
       go_wp2
       go_roundg kj3
       case measure=>have:=HK1.out;have:=HJ3.out;omega
       case rel=>exact ⟨(x3_1),(wrap64 (x4_1+1)),ez,H',⟨by have:=HK1.out;have:=HJ3.out;omega⟩,⟨by refine rq ?_;exact HO_3.out⟩,⟨(bz0 HB.out)⟩⟩
     ·replace c8:=Bool.eq_false_iff.mpr c8
      subst c8
      have H1:=hq H
      clear H
      have H:=H1
      clear H1
      obtain rfl:=Option.some.inj H
      go_wp2
      go_ret
      exact ⟨_,gz,by refine rq ?_;exact HO_3.out,(bz0 HB.out)⟩
def spec_l7HasText.l0:Nat -> List ByteArray -> ByteArray -> Int -> Option (Bool)
 | 0,_,_,_=>none
 | k+1,x0,x1,x5=>if x5<(x0.length:Int) then (if 0 <= x5 then (if (rdOf ByteArray.empty x0 x5).toList=x1.toList then (some true) else (spec_l7HasText.l0 k x0 x1 (wrap64 (x5+1)))) else (none)) else (some false)
def spec_l7HasText.f (k:Nat) (l0:List ByteArray) (a1:ByteArray):Option (Bool):=spec_l7HasText.l0 k l0 a1 0
theorem spec_l7HasText.mono_l:∀ k,(∀ y0 y1 y2,LeO (spec_l7HasText.l0 k y0 y1 y2) (spec_l7HasText.l0 (k+1) y0 y1 y2))
 | 0=>fun _ _ _ r h=>by simp [spec_l7HasText.l0] at h
 | k+1=>by
  have ih0:=spec_l7HasText.mono_l k
  ·intro y0 y1 y2
   unfold spec_l7HasText.l0
   with_reducible repeat' first|exact ih0 _ _ _|exact lrz _|exact lnz _|refine liz ?_ ?_|refine lbz ?_ fun _=>?_
theorem spec_l7HasText.mono:∀ a0 a1 k,LeO (spec_l7HasText.f k a0 a1) (spec_l7HasText.f (k+1) a0 a1):=by
 intro a0 a1 k
 have ih0:=spec_l7HasText.mono_l k
 unfold spec_l7HasText.f
 with_reducible repeat' first|exact ih0 _ _ _|exact lrz _|exact lnz _|refine liz ?_ ?_|refine lbz ?_ fun _=>?_
set_option maxHeartbeats 8000000 in
set_option maxRecDepth 100000 in
theorem spec_l7HasText.calls (k:Nat) (A0:Option Addr) (c0:Nat) (l0:List ByteArray) (a1:ByteArray) (r:Bool) (w:World) (hr0:Kd.C Kd.string w A0 l0.length l0) (hc0:l0.length <= c0) (h:spec_l7HasText.f k l0 a1=some r) :
  Calls Tryz.prog 63 #[.slice A0 l0.length c0,.string a1] w fun e w'=>e=.returned (.bool r) /\ Drawn0 w w':=by
 have HR0:=am hr0
 have HC0:=am hc0
 clear hr0 hc0
 have H:(spec_l7HasText.l0 k l0 a1 0)=some r:=h
 clear h
 have H':=am H
 clear H
 go_enter Tryz.func63,Tryz.ntmps63
 go_wp2
 go_loopg [5] k (fun kq v5 w'=>∃ (x5_1:Int),v5=.int .i64 x5_1 /\ Aside0 (spec_l7HasText.l0 kq l0 a1 x5_1=some r) /\ Aside0 (kq <= k) /\ Drawn0 w w')
 case atStart=>exact ⟨(0),ez,H',⟨Nat.le_refl _⟩,dz⟩
 case round =>
  clear H'
  try clear p2
  obtain ⟨x5_1,rfl,HA,HK1,⟨m1,rfl⟩⟩:=hrel
  cases gk with
  | zero=>exact absurd HA.out (by simp [spec_l7HasText.l0])
  | succ k1 =>
   have H:=HA.out
   clear HA
   simp only [spec_l7HasText.l0] at H
   by_cases c3:x5_1<(l0.length:Int)
   ·rw [if_pos c3] at H
    have c3b0:=decide_eq_true c3
    clear c3
    replace H:=iz H
    obtain ⟨c4,H⟩:=H
    have c4b0:=decide_eq_true c4
    clear c4
    by_cases c5:(rdOf ByteArray.empty l0 x5_1).toList=a1.toList
    ·rw [if_pos c5] at H
     have c5b0:((rdOf ByteArray.empty l0 x5_1).toList == a1.toList)=true:=beq_iff_eq.mpr c5
     have c5b1:((rdOf ByteArray.empty l0 x5_1).toList != a1.toList)=false:=bne_eq_false_iff_eq.mpr c5
     clear c5
     obtain rfl:=Option.some.inj H
     have p752:0 <= (x5_1:Int):=oz
     have q752:x5_1<(l0.length:Int):=oz
     obtain ⟨ad752,e752,hx752_0⟩:=Kd.at_string HR0.out x5_1 p752 q752
     cases e752
     replace p752:=eq_true p752
     replace q752:=eq_true q752
     go_wp2
     go_ret
     exact ⟨e2z,dz⟩
    ·rw [if_neg c5] at H
     have c5b0:((rdOf ByteArray.empty l0 x5_1).toList == a1.toList)=false:=beq_eq_false_iff_ne.mpr c5
     have c5b1:((rdOf ByteArray.empty l0 x5_1).toList != a1.toList)=true:=bne_iff_ne.mpr c5
     have H':=am H
     clear H
     have p752:0 <= (x5_1:Int):=oz
     have q752:x5_1<(l0.length:Int):=oz
     obtain ⟨ad752,e752,hx752_0⟩:=Kd.at_string HR0.out x5_1 p752 q752
     cases e752
     replace p752:=eq_true p752
     replace q752:=eq_true q752
     go_wp2
     go_roundg k1
     case measure=>have:=HK1.out;omega
     case rel=>exact ⟨(wrap64 (x5_1+1)),ez,H',⟨by have:=HK1.out;omega⟩,dz⟩
   ·rw [if_neg c3] at H
    have c3b0:=decide_eq_false c3
    clear c3
    obtain rfl:=Option.some.inj H
    go_wp2
    go_ret
    exact ⟨e2z,dz⟩
def spec_FreshName.l0:Nat -> Int -> ByteArray -> Option (ByteArray)
 | 0,_,_=>none
 | k+1,x0,x3=>if x0 > 0 then ((some (([(wrap64 (97+(Int.tmod x0 26))) % 256]:List Int):List Int)).bind fun y757=>(if (strOfNums y757).size+x3.size <= 9223372036854775807 then (spec_FreshName.l0 k (wrap64 (Int.tdiv x0 26)) ((strOfNums y757)++x3)) else (none))) else (if 2+x3.size <= 9223372036854775807 then (some ((⟨#[122,113]⟩:ByteArray)++x3)) else (none))
def spec_FreshName.f (k:Nat) (a0:Int):Option (ByteArray):=(spec_l1In.f a0 0 9999).bind fun t753=>(if t753=true then (spec_FreshName.l0 k (wrap64 (Int.tdiv a0 26)) (strOfNums (([(wrap64 (97+(Int.tmod a0 26))) % 256]:List Int)))) else (some (⟨#[]⟩:ByteArray)))
theorem spec_FreshName.mono_l:∀ k,(∀ y0 y1,LeO (spec_FreshName.l0 k y0 y1) (spec_FreshName.l0 (k+1) y0 y1))
 | 0=>fun _ _ r h=>by simp [spec_FreshName.l0] at h
 | k+1=>by
  have ih0:=spec_FreshName.mono_l k
  ·intro y0 y1
   unfold spec_FreshName.l0
   with_reducible repeat' first|exact ih0 _ _|exact lrz _|exact lnz _|refine liz ?_ ?_|refine lbz ?_ fun _=>?_
theorem spec_FreshName.mono:∀ a0 k,LeO (spec_FreshName.f k a0) (spec_FreshName.f (k+1) a0):=by
 intro a0 k
 have ih0:=spec_FreshName.mono_l k
 unfold spec_FreshName.f
 with_reducible repeat' first|exact ih0 _ _|exact lrz _|exact lnz _|refine liz ?_ ?_|refine lbz ?_ fun _=>?_
set_option maxHeartbeats 8000000 in
set_option maxRecDepth 100000 in
theorem spec_FreshName.calls (k:Nat) (a0:Int) (r:ByteArray) (w:World) (h:spec_FreshName.f k a0=some r) :
  Calls Tryz.prog 64 #[.int .i64 a0] w fun e w'=>e=.returned (.string r) /\ Below w.heap.size w w':=by
 have HB:=am (Below.refl w.heap.size w)
 have H:((spec_l1In.f a0 0 9999).bind fun t753=>(if t753=true then (spec_FreshName.l0 k (wrap64 (Int.tdiv a0 26)) (strOfNums (([(wrap64 (97+(Int.tmod a0 26))) % 256]:List Int)))) else (some (⟨#[]⟩:ByteArray))))=some r:=h
 clear h
 replace H:=bi H
 obtain ⟨t753,A20,H⟩:=H
 try dsimp only at H
 have A2:=am A20
 clear A20
 by_cases c3:t753=true
 ·subst c3
  have H1:=hp H
  clear H
  have H:=H1
  clear H1
  obtain ⟨y754,hy754⟩:∃ y_:List Int,y_=(([(wrap64 (97+(Int.tmod a0 26))) % 256]:List Int)):=⟨_,rfl⟩
  replace H:(spec_FreshName.l0 k (wrap64 (Int.tdiv a0 26)) (strOfNums y754))=some r:=yz hy754 H
  have Ny754:=am hy754
  clear hy754
  have H':=am H
  clear H
  go_enter Tryz.func64,Tryz.ntmps64
  go_wp2_with (first|((with_reducible refine gate_callee (f:=40) rfl ?_);refine goesL_ (some 5) rfl rfl Tryz.func40 kr rfl #[.int .i64 a0,.int .i64 0,.int .i64 9999] rfl lz ?_;(with_reducible refine (spec_l1In.calls a0 0 9999 true _ A2.out).mono ?_);rintro e w' ⟨rfl,⟨nd,rfl⟩⟩;refine ⟨_,rfl,?_⟩)|((with_reducible refine gate_dst (N:=11) rfl ?_);refine Kd.R_lit (Kd.int .u8) _ 5 ?hg (N:=11) ?hd (xs:=([(wrap64 (97+(Int.tmod a0 26))) % 256]:List Int)) (inner:=[.int .u8 ((wrap64 (97+(Int.tmod a0 26))) % 256)]) (ok:=fun _=>True) (okp:=fun _=>True) ?hr ?hp (fun _ hk=>hk) trivial (Below.refl _ _) (Nat.le_refl _) (by simp) ?_;(case hd=>rfl);(case hg=>rfl);(case hr=>exact vz);(case hp=>exact (Reps.one (show Kd.M (Kd.int .u8) _ _ _ ((wrap64 (97+(Int.tmod a0 26))) % 256) [.int .u8 ((wrap64 (97+(Int.tmod a0 26))) % 256)] from rfl) (Reps.none _ _)));intro v755 w4 ho5 hb hg_ hnew_;clear hg_ hnew_;(first|rw [<- Ny754.out] at ho5|(simp only [Int.reduceToNat] at ho5;rw [<- Ny754.out] at ho5));have HO756:=am (Kd.R_lower ho5 (below_size (bz0 HB.out)));replace HB:=bs (bz0 HB.out) hb;clear hb ho5;have hcv6:=own_string (P:=Tryz.prog) Tryz.underlying35 Tryz.underlying5 Tryz.underlying9 (Kd.own_of_R HO756.out)))
  go_loopg [0,3] k (fun kq v0 v3 w'=>∃ (x0_1:Int) (x3_1:ByteArray),v0=.int .i64 x0_1 /\ v3=.string x3_1 /\ Aside0 (spec_FreshName.l0 kq x0_1 x3_1=some r) /\ Aside0 (kq <= k) /\ Aside0 (Below w.heap.size w w'))
  case atStart=>exact ⟨(wrap64 (Int.tdiv a0 26)),(strOfNums y754),ez,ez,H',⟨Nat.le_refl _⟩,⟨(bz0 HB.out)⟩⟩
  case round =>
   clear H'
   try clear p2
   try clear c3
   try clear c4
   try clear c6
   try clear p6
   try clear hcv6
   obtain ⟨x0_1,x3_1,rfl,rfl,HA,HK1,HB⟩:=hrel
   cases gk with
   | zero=>exact absurd HA.out (by simp [spec_FreshName.l0])
   | succ k1 =>
    have H:=HA.out
    clear HA
    simp only [spec_FreshName.l0] at H
    by_cases c7:x0_1 > 0
    ·rw [if_pos c7] at H
     have c7b0:decide (0<x0_1)=true:=decide_eq_true c7
     clear c7
     obtain ⟨y757,hy757⟩:∃ y_:List Int,y_=(([(wrap64 (97+(Int.tmod x0_1 26))) % 256]:List Int)):=⟨_,rfl⟩
     replace H:(if (strOfNums y757).size+x3_1.size <= 9223372036854775807 then (spec_FreshName.l0 k1 (wrap64 (Int.tdiv x0_1 26)) ((strOfNums y757)++x3_1)) else (none))=some r:=yz hy757 H
     have Ny757:=am hy757
     clear hy757
     replace H:=iz H
     obtain ⟨c8,H⟩:=H
     have c8b0:=eq_true c8
     have c8b1:decide ((strOfNums y757).size+x3_1.size <= 9223372036854775807)=true:=decide_eq_true c8
     try have c8b2:(9223372036854775807<(strOfNums y757).size+x3_1.size)=False:=eq_false (Nat.not_lt.2 c8)
     have H':=am H
     clear H
     go_wp2_with (first|((with_reducible refine gate_dst (N:=23) rfl ?_);refine Kd.R_lit (Kd.int .u8) _ 5 ?hg (N:=23) ?hd (xs:=([(wrap64 (97+(Int.tmod x0_1 26))) % 256]:List Int)) (inner:=[.int .u8 ((wrap64 (97+(Int.tmod x0_1 26))) % 256)]) (ok:=fun _=>True) (okp:=fun _=>True) ?hr ?hp (fun _ hk=>hk) trivial (Below.refl _ _) (Nat.le_refl _) (by simp) ?_;(case hd=>rfl);(case hg=>rfl);(case hr=>exact vz);(case hp=>exact (Reps.one (show Kd.M (Kd.int .u8) _ _ _ ((wrap64 (97+(Int.tmod x0_1 26))) % 256) [.int .u8 ((wrap64 (97+(Int.tmod x0_1 26))) % 256)] from rfl) (Reps.none _ _)));intro v758 w9 ho10 hb hg_ hnew_;clear hg_ hnew_;(first|rw [<- Ny757.out] at ho10|(simp only [Int.reduceToNat] at ho10;rw [<- Ny757.out] at ho10));have HO759:=am (Kd.R_lower ho10 (below_size (bz0 HB.out)));replace HB:=bs (bz0 HB.out) hb;clear hb ho10;have hcv11:=own_string (P:=Tryz.prog) Tryz.underlying35 Tryz.underlying5 Tryz.underlying9 (Kd.own_of_R HO759.out)))
     go_roundg k1
     case measure=>have:=HK1.out;omega
     case rel=>exact ⟨(wrap64 (Int.tdiv x0_1 26)),((strOfNums y757)++x3_1),ez,ez,H',⟨by have:=HK1.out;omega⟩,⟨(bz0 HB.out)⟩⟩
    ·rw [if_neg c7] at H
     have c7b0:decide (0<x0_1)=false:=decide_eq_false c7
     clear c7
     replace H:=iz H
     obtain ⟨c12,H⟩:=H
     have c12b0:=eq_true c12
     have c12b1:decide (2+x3_1.size <= 9223372036854775807)=true:=decide_eq_true c12
     try have c12b2:(9223372036854775807<2+x3_1.size)=False:=eq_false (Nat.not_lt.2 c12)
     obtain rfl:=Option.some.inj H
     go_wp2
     go_ret
     exact ⟨gz,(bz0 HB.out)⟩
 ·replace c3:=Bool.eq_false_iff.mpr c3
  subst c3
  have H1:=hq H
  clear H
  have H:=H1
  clear H1
  obtain rfl:=Option.some.inj H
  go_enter Tryz.func64,Tryz.ntmps64
  go_wp2_with (first|((with_reducible refine gate_callee (f:=40) rfl ?_);refine goesL_ (some 5) rfl rfl Tryz.func40 kr rfl #[.int .i64 a0,.int .i64 0,.int .i64 9999] rfl lz ?_;(with_reducible refine (spec_l1In.calls a0 0 9999 false _ A2.out).mono ?_);rintro e w' ⟨rfl,⟨nd,rfl⟩⟩;refine ⟨_,rfl,?_⟩))
  go_ret
  exact ⟨gz,(bz0 HB.out)⟩
end Go.Proofs.YthmpgocaoccnaaaGreatDoor.PFnFresh
