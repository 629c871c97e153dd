/- PFnFreshx20, of the words and walks that the law FnFresh needs; made by this session's program out of printed texts. -/
import Derived.Test.YthmpgocaoccnaaaGreatDoorVFnFreshPx0
import Derived.Test.YthmpgocaoccnaaaGreatDoorVFnFreshPx18
namespace Go.Proofs.YthmpgocaoccnaaaGreatDoor.PFnFresh
open Go.RowKit Go.Proofs.YthmpgocaoccnaaaGreatDoorW.PrintWords Go.Proofs.YthmpgocaoccnaaaGreatDoorW.PrintLast Go.Proofs.YthmpgocaoccnaaaGreatDoorW.PrintMore
attribute [local go_sem] max2_int min2_int max_two min_two max_three min_three max_four min_four
set_option linter.unusedVariables false
set_option linter.unusedSimpArgs false
mutual
def spec_l7Set.j0:Nat -> List (S45) -> List Int -> ByteArray -> Option ((List (S45)))
 | 0,_,_,_=>none
 | k+1,x0,x1,x3=>spec_l7Set.l0 k x0 x1 x3 0
def spec_l7Set.l0:Nat -> List (S45) -> List Int -> ByteArray -> Int -> Option ((List (S45)))
 | 0,_,_,_,_=>none
 | k+1,x0,x1,x3,x9=>if x9<(x1.length:Int) then (if 0 <= x9 then (if 0 <= (rd x1 x9) then (if (rd x1 x9)<(x0.length:Int) then (spec_l7Set.l0 k (x0.set ((rd x1 x9):Int).toNat (⟨(rd_T45 x0 (rd x1 x9)).f0,(rd_T45 x0 (rd x1 x9)).f1,(rd_T45 x0 (rd x1 x9)).f2,(rd_T45 x0 (rd x1 x9)).f3,(rd_T45 x0 (rd x1 x9)).f4,x3,(rd_T45 x0 (rd x1 x9)).f6⟩:S45)) x1 x3 (wrap64 (x9+1))) else (none)) else (none)) else (none)) else (some x0)
end
def spec_l7Set.f (k:Nat) (l0:List (S45)) (l1:List Int) (a2_0:Int) (a2_1:Int) (a3:ByteArray):Option ((List (S45))):=if a2_1=0 then (if 0 <= a2_0 then (if a2_0<(l0.length:Int) then (spec_l7Set.j0 k (l0.set (a2_0:Int).toNat (⟨(rd_T45 l0 a2_0).f0,(rd_T45 l0 a2_0).f1,(rd_T45 l0 a2_0).f2,(rd_T45 l0 a2_0).f3,(rd_T45 l0 a2_0).f4,a3,(rd_T45 l0 a2_0).f6⟩:S45)) l1 a3) else (none)) else (none)) else (if 0 <= a2_0 then (if a2_0<(l0.length:Int) then (spec_l7Set.j0 k (l0.set (a2_0:Int).toNat (⟨(rd_T45 l0 a2_0).f0,(rd_T45 l0 a2_0).f1,(rd_T45 l0 a2_0).f2,(rd_T45 l0 a2_0).f3,(rd_T45 l0 a2_0).f4,(rd_T45 l0 a2_0).f5,a3⟩:S45)) l1 a3) else (none)) else (none))
theorem spec_l7Set.mono_l:∀ k,(∀ y0 y1 y2,LeO (spec_l7Set.j0 k y0 y1 y2) (spec_l7Set.j0 (k+1) y0 y1 y2)) /\ (∀ y0 y1 y2 y3,LeO (spec_l7Set.l0 k y0 y1 y2 y3) (spec_l7Set.l0 (k+1) y0 y1 y2 y3))
 | 0=>⟨fun _ _ _ r h=>by simp [spec_l7Set.j0] at h,fun _ _ _ _ r h=>by simp [spec_l7Set.l0] at h⟩
 | k+1=>by
  obtain ⟨ih0,ih1⟩:=spec_l7Set.mono_l k
  refine ⟨?_,?_⟩
  ·intro y0 y1 y2
   unfold spec_l7Set.j0
   with_reducible repeat' first|exact ih0 _ _ _|exact ih1 _ _ _ _|exact lrz _|exact lnz _|refine liz ?_ ?_|refine lbz ?_ fun _=>?_
  ·intro y0 y1 y2 y3
   unfold spec_l7Set.l0
   with_reducible repeat' first|exact ih0 _ _ _|exact ih1 _ _ _ _|exact lrz _|exact lnz _|refine liz ?_ ?_|refine lbz ?_ fun _=>?_
theorem spec_l7Set.mono:∀ a0 a1 a2 a3 a4 k,LeO (spec_l7Set.f k a0 a1 a2 a3 a4) (spec_l7Set.f (k+1) a0 a1 a2 a3 a4):=by
 intro a0 a1 a2 a3 a4 k
 obtain ⟨ih0,ih1⟩:=spec_l7Set.mono_l k
 unfold spec_l7Set.f
 with_reducible repeat' first|exact ih0 _ _ _|exact ih1 _ _ _ _|exact lrz _|exact lnz _|refine liz ?_ ?_|refine lbz ?_ fun _=>?_
set_option maxHeartbeats 8000000 in
set_option maxRecDepth 100000 in
theorem spec_l7Set.calls (k:Nat) (P0_:Nat -> Prop) (u9000_:Value) (l0:List (S45)) (A1:Option Addr) (c1:Nat) (l1:List Int) (a2_0:Int) (a2_1:Int) (a3:ByteArray) (r:List (S45)) (w0 w:World) (hB:Below w0.heap.size w0 w) (ho0:Kd.R k45 45 w w0.heap.size P0_ u9000_ l0) (hr1:∀ W_,Kept w W_ (fun k_=>P0_ k_) -> Kd.C (Kd.int .i64) W_ A1 l1.length l1) (hc1:l1.length <= c1) (h:spec_l7Set.f k l0 l1 a2_0 a2_1 a3=some r) :
  Calls Tryz.prog 27 #[u9000_,.slice A1 l1.length c1,.agg #[.int .i64 a2_0,.int .i64 a2_1],.string a3] w fun e w'=>∃ v0_:Value,e=.returned (v0_) /\ Kd.R k45 45 w' w0.heap.size (fun k_=>(P0_ k_ \/ w.heap.size <= k_)) v0_ r /\ Below w0.heap.size w0 w' /\ Kept w w' (fun k_=>P0_ k_):=by
 have hu30:=Tryz.underlying30
 have HO0:=am (show Kd.R k45 45 w w0.heap.size (fun k_=>(P0_ k_ \/ w.heap.size <= k_)) u9000_ l0 from Kd.R_mono ho0 (fun k_ hk=>(.inl hk)))
 have HR1:=am hr1
 have HC1:=am hc1
 clear hr1 hc1
 have HK:=am (Kept.refl w (fun k_=>P0_ k_))
 have HW0:=am hB.size
 have HB:=am hB
 clear hB
 have H:(if a2_1=0 then (if 0 <= a2_0 then (if a2_0<(l0.length:Int) then (spec_l7Set.j0 k (l0.set (a2_0:Int).toNat (⟨(rd_T45 l0 a2_0).f0,(rd_T45 l0 a2_0).f1,(rd_T45 l0 a2_0).f2,(rd_T45 l0 a2_0).f3,(rd_T45 l0 a2_0).f4,a3,(rd_T45 l0 a2_0).f6⟩:S45)) l1 a3) else (none)) else (none)) else (if 0 <= a2_0 then (if a2_0<(l0.length:Int) then (spec_l7Set.j0 k (l0.set (a2_0:Int).toNat (⟨(rd_T45 l0 a2_0).f0,(rd_T45 l0 a2_0).f1,(rd_T45 l0 a2_0).f2,(rd_T45 l0 a2_0).f3,(rd_T45 l0 a2_0).f4,(rd_T45 l0 a2_0).f5,a3⟩:S45)) l1 a3) else (none)) else (none)))=some r:=h
 clear h
 have HC5:=am H
 clear H
 go_enter Tryz.func27,Tryz.ntmps27
 go_upto_if 12 with (first|((with_reducible refine gate_dst (N:=6) rfl ?_);refine box_event ?hg (N:=6) ?hd (cs:=#[.int .i64 a2_0,.int .i64 a2_1]) (t:=30) ?hr ?_;(case hd=>rfl);(case hg=>rfl);(case hr=>exact vz);intro gb629 hg w6 hbox hb;replace HO0:=qz HO0 hb;have BK629:=am (hbox);have GW629:=am ((by rw [hg];exact (by first|exact HK.out.1|exact (show Kept w _ (fun k_=>P0_ k_) from by repeat (first|(with_reducible first|exact HK.out|apply Kept.alloc|apply Kept.drewN|apply Kept.drew)|exact HK.out)).1):w.heap.size <= gb629));replace HK:=am (Kept.below (S:=(fun k_=>P0_ k_)) (by repeat (first|(with_reducible first|exact HK.out|apply Kept.alloc|apply Kept.drewN|apply Kept.drew)|exact HK.out)) hb);have GE629:=am ((by rw [hg];exact (below_size (bz0 HB.out)):w0.heap.size <= gb629));replace HB:=bs (bz0 HB.out) hb;clear hb hbox hg;obtain ⟨hcz7_0,hcz7_1⟩:=cz2 BK629.out;obtain ⟨hfz7_0,hfz7_1⟩:=fz2 BK629.out))
 (try simp only [Act.put,sz1,sz2,sz3])
 go_cut [] (fun wc=>∃ (kq:Nat) (x0_4:List (S45)),Aside0 (spec_l7Set.j0 kq x0_4 l1 a3=some r) /\ Aside0 (kq <= k) /\ Aside0 (Kd.R k45 45 wc w0.heap.size (fun k_=>(P0_ k_ \/ w.heap.size <= k_)) u9000_ x0_4) /\ Aside0 (wc.heap[gb629]?=some (.cells #[.int .i64 a2_0,.int .i64 a2_1] 30 (0,0))) /\ Aside0 (Kept w wc (fun k_=>P0_ k_)) /\ Aside0 (Below w0.heap.size w0 wc))
 case first =>
  have H:=HC5.out
  clear HC5
  by_cases c8:a2_1=0
  ·rw [if_pos c8] at H
   have c8b0:(a2_1 == 0)=true:=beq_iff_eq.mpr c8
   have c8b1:(a2_1 != 0)=false:=bne_eq_false_iff_eq.mpr c8
   clear c8
   (first|rw [c8b0]|(simp only [i64_w,i32_w];rw [c8b0])|skip)
   replace H:=iz H
   obtain ⟨c9,H⟩:=H
   have c9b0:=decide_eq_true c9
   clear c9
   replace H:=iz H
   obtain ⟨c10,H⟩:=H
   have c10b0:=decide_eq_true c10
   clear c10
   obtain ⟨y630,hy630⟩:∃ y_:List (S45),y_=(l0.set (a2_0:Int).toNat (⟨(rd_T45 l0 a2_0).f0,(rd_T45 l0 a2_0).f1,(rd_T45 l0 a2_0).f2,(rd_T45 l0 a2_0).f3,(rd_T45 l0 a2_0).f4,a3,(rd_T45 l0 a2_0).f6⟩:S45)):=⟨_,rfl⟩
   replace H:(spec_l7Set.j0 k y630 l1 a3)=some r:=yz hy630 H
   have Ny630:=am hy630
   clear hy630
   have H':=am H
   clear H
   obtain ⟨hcz12_0,hcz12_1⟩:=cz2 BK629.out
   obtain ⟨hfz12_0,hfz12_1⟩:=fz2 BK629.out
   have p11:0 <= (a2_0:Int):=oz
   have q11:(a2_0:Int)<((l0.length:Int):Int):=oz
   obtain ⟨go11,co11,eo11,gb11,gl11,cl11,HG11⟩:=Kd.R_form HO0.out (by omega)
   (first|cases eo11|(injection eo11 with ea_ en_ ec_;(first|subst ea_|(injection ea_ with ea_;subst ea_));subst ec_;clear en_))
   have GB11:=am gb11
   have GG11:=am HG11
   clear gb11 gl11 HG11
   have HMgo11:=am (show (P0_ go11 \/ w.heap.size <= go11) from (HO0.out.1 _ rfl))
   obtain ⟨ce11,hcl11,hM11,hcc11,hfr11⟩:=Kd.R_elem HO0.out z45 (a2_0:Int) p11 q11
   obtain rfl:=k45_openM hM11
   have hx11_0:w6.cell? ⟨go11,(a2_0:Int).toNat * 7,none⟩=some (.int .i64 ((rd_T45 l0 a2_0).f0)):=hcc11 0 _ rfl
   have hx11_1:w6.cell? ⟨go11,(a2_0:Int).toNat * 7+1,none⟩=some (.int .i64 ((rd_T45 l0 a2_0).f1)):=hcc11 1 _ rfl
   have hx11_2:w6.cell? ⟨go11,(a2_0:Int).toNat * 7+2,none⟩=some (.int .i64 ((rd_T45 l0 a2_0).f2)):=hcc11 2 _ rfl
   have hx11_3:w6.cell? ⟨go11,(a2_0:Int).toNat * 7+3,none⟩=some (.int .i64 ((rd_T45 l0 a2_0).f3)):=hcc11 3 _ rfl
   have hx11_4:w6.cell? ⟨go11,(a2_0:Int).toNat * 7+4,none⟩=some (.int .i64 ((rd_T45 l0 a2_0).f4)):=hcc11 4 _ rfl
   have hx11_5:w6.cell? ⟨go11,(a2_0:Int).toNat * 7+5,none⟩=some (.string ((rd_T45 l0 a2_0).f5)):=hcc11 5 _ rfl
   have hx11_6:w6.cell? ⟨go11,(a2_0:Int).toNat * 7+6,none⟩=some (.string ((rd_T45 l0 a2_0).f6)):=hcc11 6 _ rfl
   have hf11_0:w6.frozen? ⟨go11,(a2_0:Int).toNat * 7,none⟩=false:=hfr11 0
   have hf11_1:w6.frozen? ⟨go11,(a2_0:Int).toNat * 7+1,none⟩=false:=hfr11 1
   have hf11_2:w6.frozen? ⟨go11,(a2_0:Int).toNat * 7+2,none⟩=false:=hfr11 2
   have hf11_3:w6.frozen? ⟨go11,(a2_0:Int).toNat * 7+3,none⟩=false:=hfr11 3
   have hf11_4:w6.frozen? ⟨go11,(a2_0:Int).toNat * 7+4,none⟩=false:=hfr11 4
   have hf11_5:w6.frozen? ⟨go11,(a2_0:Int).toNat * 7+5,none⟩=false:=hfr11 5
   have hf11_6:w6.frozen? ⟨go11,(a2_0:Int).toNat * 7+6,none⟩=false:=hfr11 6
   clear hcl11 hcc11 hfr11 hM11
   replace p11:=eq_true p11
   replace q11:=eq_true q11
   have HX13:=am (show Kd.R k45 45 w6 w0.heap.size (fun k_=>(P0_ k_ \/ w.heap.size <= k_)) (.slice (some ⟨go11,0,none⟩) l0.length co11) l0 from (rz HO0.out))
   obtain ⟨ce13,hcl13,hM13,hcc13,hfr13⟩:=Kd.R_elem HX13.out z45 (a2_0:Int) (of_decide_eq_true az) (by have h_:(a2_0:Int)<((l0.length:Int):Int):=oz;first|exact h_|(have e_:=(Kd.R_reads' HO0.out).1;omega)|simpa using h_)
   obtain rfl:=k45_openM hM13
   have HP13:=Kd.R_seg HX13.out (a2_0:Int) (of_decide_eq_true az) (by have h_:(a2_0:Int)<((l0.length:Int):Int):=oz;first|exact h_|(have e_:=(Kd.R_reads' HO0.out).1;omega)|simpa using h_) (seg:=[.string a3]) (j:=5) hcl13 hcc13 (show 6 <= 7 from by decide) (x':=(⟨(rd_T45 l0 a2_0).f0,(rd_T45 l0 a2_0).f1,(rd_T45 l0 a2_0).f2,(rd_T45 l0 a2_0).f3,(rd_T45 l0 a2_0).f4,a3,(rd_T45 l0 a2_0).f6⟩:S45)) (k45_mkM _ _ _ (⟨(rd_T45 l0 a2_0).f0,(rd_T45 l0 a2_0).f1,(rd_T45 l0 a2_0).f2,(rd_T45 l0 a2_0).f3,(rd_T45 l0 a2_0).f4,a3,(rd_T45 l0 a2_0).f6⟩:S45) ) (fun _ hk=>hk)
   have hx13_5:=hcc13 5 _ rfl
   (try simp only [show (k45).sz=7 from rfl,Nat.mul_one,Nat.add_zero] at hx13_5)
   have hf13_5:=hfr13 5
   (try simp only [show (k45).sz=7 from rfl,Nat.mul_one,Nat.add_zero] at hf13_5)
   clear hcl13 hcc13 hfr13 hM13
   go_wp2_with (first|((with_reducible refine gate_store (t:=9) (p:=18) rfl ?_);refine store_event (t:=9) (p:=18) (v:=?vo_w14) (w1:=(w6.setCell ⟨go11,(a2_0:Int).toNat * 7+5,none⟩ (.string a3))) ?hg ?ho ?hn ?hr ?_;(case ho=>rfl);(case hg=>rfl);(case hn=>rfl);(case hr=>exact vz);intro w14 hw;have hg:w6.grownBy w14 (some go11):=(by rw [hw];exact HP13.2);have hp_:Kd.R k45 45 w14 w0.heap.size (fun k_=>(P0_ k_ \/ w.heap.size <= k_)) (.slice (some ⟨go11,0,none⟩) l0.length co11) y630:=(by rw [hw,Ny630.out];exact HP13.1);clear HP13;replace BK629:=am (blk_grown (g:=gb629) (o:=.cells #[.int .i64 a2_0,.int .i64 a2_1] 30 (0,0)) (kz BK629.out) hg (Kd.R_ne HO0.out BK629.out (by decide)));replace HB:=am ((by rw [hw];exact below_set (HB.out) GB11.out:Below w0.heap.size w0 w14));replace HK:=am (Kept.of_grown (S:=(fun k_=>P0_ k_)) hg (by repeat (first|(with_reducible first|exact HK.out|apply Kept.alloc|apply Kept.drewN|apply Kept.drew|refine Kept.setCell ?_ (.inr GW629.out) _)|exact HK.out)) (fun k_ e_=>(HO0.out.1 k_ e_)));replace HO0:=am (hp_);clear hg hw hp_))
   go_meet
   case rel=>exact ⟨_,(y630),H',⟨by first|omega|exact Nat.le_refl _⟩,⟨by refine rq ?_;exact HO0.out⟩,⟨by refine kq ?_;exact BK629.out⟩,⟨by repeat (first|(with_reducible first|exact HK.out|apply Kept.alloc|apply Kept.drewN|apply Kept.drew|refine Kept.setCell ?_ (.inr GW629.out) _)|exact HK.out)⟩,⟨(bz1 HB.out GE629.out)⟩⟩
  ·rw [if_neg c8] at H
   have c8b0:(a2_1 == 0)=false:=beq_eq_false_iff_ne.mpr c8
   have c8b1:(a2_1 != 0)=true:=bne_iff_ne.mpr c8
   (first|rw [c8b0]|(simp only [i64_w,i32_w];rw [c8b0])|skip)
   replace H:=iz H
   obtain ⟨c15,H⟩:=H
   have c15b0:=decide_eq_true c15
   clear c15
   replace H:=iz H
   obtain ⟨c16,H⟩:=H
   have c16b0:=decide_eq_true c16
   clear c16
   obtain ⟨y631,hy631⟩:∃ y_:List (S45),y_=(l0.set (a2_0:Int).toNat (⟨(rd_T45 l0 a2_0).f0,(rd_T45 l0 a2_0).f1,(rd_T45 l0 a2_0).f2,(rd_T45 l0 a2_0).f3,(rd_T45 l0 a2_0).f4,(rd_T45 l0 a2_0).f5,a3⟩:S45)):=⟨_,rfl⟩
   replace H:(spec_l7Set.j0 k y631 l1 a3)=some r:=yz hy631 H
   have Ny631:=am hy631
   clear hy631
   have H':=am H
   clear H
   obtain ⟨hcz18_0,hcz18_1⟩:=cz2 BK629.out
   obtain ⟨hfz18_0,hfz18_1⟩:=fz2 BK629.out
   have p17:0 <= (a2_0:Int):=oz
   have q17:(a2_0:Int)<((l0.length:Int):Int):=oz
   obtain ⟨go17,co17,eo17,gb17,gl17,cl17,HG17⟩:=Kd.R_form HO0.out (by omega)
   (first|cases eo17|(injection eo17 with ea_ en_ ec_;(first|subst ea_|(injection ea_ with ea_;subst ea_));subst ec_;clear en_))
   have GB17:=am gb17
   have GG17:=am HG17
   clear gb17 gl17 HG17
   have HMgo17:=am (show (P0_ go17 \/ w.heap.size <= go17) from (HO0.out.1 _ rfl))
   obtain ⟨ce17,hcl17,hM17,hcc17,hfr17⟩:=Kd.R_elem HO0.out z45 (a2_0:Int) p17 q17
   obtain rfl:=k45_openM hM17
   have hx17_0:w6.cell? ⟨go17,(a2_0:Int).toNat * 7,none⟩=some (.int .i64 ((rd_T45 l0 a2_0).f0)):=hcc17 0 _ rfl
   have hx17_1:w6.cell? ⟨go17,(a2_0:Int).toNat * 7+1,none⟩=some (.int .i64 ((rd_T45 l0 a2_0).f1)):=hcc17 1 _ rfl
   have hx17_2:w6.cell? ⟨go17,(a2_0:Int).toNat * 7+2,none⟩=some (.int .i64 ((rd_T45 l0 a2_0).f2)):=hcc17 2 _ rfl
   have hx17_3:w6.cell? ⟨go17,(a2_0:Int).toNat * 7+3,none⟩=some (.int .i64 ((rd_T45 l0 a2_0).f3)):=hcc17 3 _ rfl
   have hx17_4:w6.cell? ⟨go17,(a2_0:Int).toNat * 7+4,none⟩=some (.int .i64 ((rd_T45 l0 a2_0).f4)):=hcc17 4 _ rfl
   have hx17_5:w6.cell? ⟨go17,(a2_0:Int).toNat * 7+5,none⟩=some (.string ((rd_T45 l0 a2_0).f5)):=hcc17 5 _ rfl
   have hx17_6:w6.cell? ⟨go17,(a2_0:Int).toNat * 7+6,none⟩=some (.string ((rd_T45 l0 a2_0).f6)):=hcc17 6 _ rfl
   have hf17_0:w6.frozen? ⟨go17,(a2_0:Int).toNat * 7,none⟩=false:=hfr17 0
   have hf17_1:w6.frozen? ⟨go17,(a2_0:Int).toNat * 7+1,none⟩=false:=hfr17 1
   have hf17_2:w6.frozen? ⟨go17,(a2_0:Int).toNat * 7+2,none⟩=false:=hfr17 2
   have hf17_3:w6.frozen? ⟨go17,(a2_0:Int).toNat * 7+3,none⟩=false:=hfr17 3
   have hf17_4:w6.frozen? ⟨go17,(a2_0:Int).toNat * 7+4,none⟩=false:=hfr17 4
   have hf17_5:w6.frozen? ⟨go17,(a2_0:Int).toNat * 7+5,none⟩=false:=hfr17 5
   have hf17_6:w6.frozen? ⟨go17,(a2_0:Int).toNat * 7+6,none⟩=false:=hfr17 6
   clear hcl17 hcc17 hfr17 hM17
   replace p17:=eq_true p17
   replace q17:=eq_true q17
   have HX19:=am (show Kd.R k45 45 w6 w0.heap.size (fun k_=>(P0_ k_ \/ w.heap.size <= k_)) (.slice (some ⟨go17,0,none⟩) l0.length co17) l0 from (rz HO0.out))
   obtain ⟨ce19,hcl19,hM19,hcc19,hfr19⟩:=Kd.R_elem HX19.out z45 (a2_0:Int) (of_decide_eq_true az) (by have h_:(a2_0:Int)<((l0.length:Int):Int):=oz;first|exact h_|(have e_:=(Kd.R_reads' HO0.out).1;omega)|simpa using h_)
   obtain rfl:=k45_openM hM19
   have HP19:=Kd.R_seg HX19.out (a2_0:Int) (of_decide_eq_true az) (by have h_:(a2_0:Int)<((l0.length:Int):Int):=oz;first|exact h_|(have e_:=(Kd.R_reads' HO0.out).1;omega)|simpa using h_) (seg:=[.string a3]) (j:=6) hcl19 hcc19 (show 7 <= 7 from by decide) (x':=(⟨(rd_T45 l0 a2_0).f0,(rd_T45 l0 a2_0).f1,(rd_T45 l0 a2_0).f2,(rd_T45 l0 a2_0).f3,(rd_T45 l0 a2_0).f4,(rd_T45 l0 a2_0).f5,a3⟩:S45)) (k45_mkM _ _ _ (⟨(rd_T45 l0 a2_0).f0,(rd_T45 l0 a2_0).f1,(rd_T45 l0 a2_0).f2,(rd_T45 l0 a2_0).f3,(rd_T45 l0 a2_0).f4,(rd_T45 l0 a2_0).f5,a3⟩:S45) ) (fun _ hk=>hk)
   have hx19_6:=hcc19 6 _ rfl
   (try simp only [show (k45).sz=7 from rfl,Nat.mul_one,Nat.add_zero] at hx19_6)
   have hf19_6:=hfr19 6
   (try simp only [show (k45).sz=7 from rfl,Nat.mul_one,Nat.add_zero] at hf19_6)
   clear hcl19 hcc19 hfr19 hM19
   go_wp2_with (first|((with_reducible refine gate_store (t:=9) (p:=24) rfl ?_);refine store_event (t:=9) (p:=24) (v:=?vo_w20) (w1:=(w6.setCell ⟨go17,(a2_0:Int).toNat * 7+6,none⟩ (.string a3))) ?hg ?ho ?hn ?hr ?_;(case ho=>rfl);(case hg=>rfl);(case hn=>rfl);(case hr=>exact vz);intro w20 hw;have hg:w6.grownBy w20 (some go17):=(by rw [hw];exact HP19.2);have hp_:Kd.R k45 45 w20 w0.heap.size (fun k_=>(P0_ k_ \/ w.heap.size <= k_)) (.slice (some ⟨go17,0,none⟩) l0.length co17) y631:=(by rw [hw,Ny631.out];exact HP19.1);clear HP19;replace BK629:=am (blk_grown (g:=gb629) (o:=.cells #[.int .i64 a2_0,.int .i64 a2_1] 30 (0,0)) (kz BK629.out) hg (Kd.R_ne HO0.out BK629.out (by decide)));replace HB:=am ((by rw [hw];exact below_set (HB.out) GB17.out:Below w0.heap.size w0 w20));replace HK:=am (Kept.of_grown (S:=(fun k_=>P0_ k_)) hg (by repeat (first|(with_reducible first|exact HK.out|apply Kept.alloc|apply Kept.drewN|apply Kept.drew|refine Kept.setCell ?_ (.inr GW629.out) _)|exact HK.out)) (fun k_ e_=>(HO0.out.1 k_ e_)));replace HO0:=am (hp_);clear hg hw hp_))
   go_meet
   case rel=>exact ⟨_,(y631),H',⟨by first|omega|exact Nat.le_refl _⟩,⟨by refine rq ?_;exact HO0.out⟩,⟨by refine kq ?_;exact BK629.out⟩,⟨by repeat (first|(with_reducible first|exact HK.out|apply Kept.alloc|apply Kept.drewN|apply Kept.drew|refine Kept.setCell ?_ (.inr GW629.out) _)|exact HK.out)⟩,⟨(bz1 HB.out GE629.out)⟩⟩
 case rest =>
  clear HC5
  try clear c1
  try clear p1
  try clear q1
  try clear hx1
  try clear c2
  try clear p2
  try clear c8
  try clear c8b0
  try clear c8b1
  try clear c9
  try clear c9b0
  try clear c10
  try clear c10b0
  try clear c11
  try clear p11
  try clear q11
  try clear hx11
  try clear hf11
  try clear c13
  try clear hx13
  try clear hf13
  try clear c15
  try clear c15b0
  try clear c16
  try clear c16b0
  try clear c17
  try clear p17
  try clear q17
  try clear hx17
  try clear hf17
  try clear c19
  try clear hx19
  try clear hf19
  try clear hcz12_0 hcz12_1
  try clear hcz18_0 hcz18_1
  try clear hcz7_0 hcz7_1
  try clear hfz12_0 hfz12_1
  try clear hfz18_0 hfz18_1
  try clear hfz7_0 hfz7_1
  try clear hx11_0
  try clear hx11_1
  try clear hx11_2
  try clear hx11_3
  try clear hx11_4
  try clear hx11_5
  try clear hx11_6
  try clear hx13_5
  try clear hx17_0
  try clear hx17_1
  try clear hx17_2
  try clear hx17_3
  try clear hx17_4
  try clear hx17_5
  try clear hx17_6
  try clear hx19_6
  try clear p11
  try clear p17
  try clear q11
  try clear q17
  obtain ⟨kq,x0_4,HA,HJ4,HO_0,BK629,HK,HB⟩:=hcut
  cases kq with
  | zero=>exact absurd HA.out (by simp [spec_l7Set.j0])
  | succ kj4 =>
   have H:=HA.out
   clear HA
   simp only [spec_l7Set.j0] at H
   have H':=am H
   clear H
   go_wp2
   go_loopg [9] kj4 (fun kq v9 w'=>∃ (x0_2:List (S45)) (x9_2:Int),v9=.int .i64 x9_2 /\ Aside0 (spec_l7Set.l0 kq x0_2 l1 a3 x9_2=some r) /\ Aside0 (kq <= kj4) /\ Aside0 (Kd.R k45 45 w' w0.heap.size (fun k_=>(P0_ k_ \/ w.heap.size <= k_)) u9000_ x0_2) /\ Aside0 (w'.heap[gb629]?=some (.cells #[.int .i64 a2_0,.int .i64 a2_1] 30 (0,0))) /\ Aside0 (Kept w w' (fun k_=>P0_ k_)) /\ Aside0 (Below w0.heap.size w0 w'))
   case atStart=>exact ⟨(x0_4),(0),ez,H',⟨Nat.le_refl _⟩,⟨by refine rq ?_;exact HO_0.out⟩,⟨by refine kq ?_;exact BK629.out⟩,⟨by repeat (first|(with_reducible first|exact HK.out|apply Kept.alloc|apply Kept.drewN|apply Kept.drew|refine Kept.setCell ?_ (.inr GW629.out) _)|exact HK.out)⟩,⟨(bz1 HB.out GE629.out)⟩⟩
   case round =>
    clear H'
    try clear c1
    try clear p1
    try clear q1
    try clear hx1
    try clear c2
    try clear p2
    try clear c8
    try clear c8b0
    try clear c8b1
    try clear c9
    try clear c9b0
    try clear c10
    try clear c10b0
    try clear c11
    try clear p11
    try clear q11
    try clear hx11
    try clear hf11
    try clear c13
    try clear hx13
    try clear hf13
    try clear c15
    try clear c15b0
    try clear c16
    try clear c16b0
    try clear c17
    try clear p17
    try clear q17
    try clear hx17
    try clear hf17
    try clear c19
    try clear hx19
    try clear hf19
    try clear hcz12_0 hcz12_1
    try clear hcz18_0 hcz18_1
    try clear hcz7_0 hcz7_1
    try clear hfz12_0 hfz12_1
    try clear hfz18_0 hfz18_1
    try clear hfz7_0 hfz7_1
    try clear hx11_0
    try clear hx11_1
    try clear hx11_2
    try clear hx11_3
    try clear hx11_4
    try clear hx11_5
    try clear hx11_6
    try clear hx13_5
    try clear hx17_0
    try clear hx17_1
    try clear hx17_2
    try clear hx17_3
    try clear hx17_4
    try clear hx17_5
    try clear hx17_6
    try clear hx19_6
    try clear p1
    try clear p11
    try clear p17
    try clear p2
    try clear q1
    try clear q11
    try clear q17
    obtain ⟨x0_2,x9_2,rfl,HA,HK2,HO_0,BK629,HK,HB⟩:=hrel
    cases gk with
    | zero=>exact absurd HA.out (by simp [spec_l7Set.l0])
    | succ k2 =>
     have H:=HA.out
     clear HA
     simp only [spec_l7Set.l0] at H
     by_cases c21:x9_2<(l1.length:Int)
     ·rw [if_pos c21] at H
      have c21b0:=decide_eq_true c21
      clear c21
      replace H:=iz H
      obtain ⟨c22,H⟩:=H
      have c22b0:=decide_eq_true c22
      clear c22
      replace H:=iz H
      obtain ⟨c23,H⟩:=H
      have c23b0:=decide_eq_true c23
      clear c23
      replace H:=iz H
      obtain ⟨c24,H⟩:=H
      have c24b0:=decide_eq_true c24
      clear c24
      obtain ⟨y633,hy633⟩:∃ y_:List (S45),y_=(x0_2.set ((rd l1 x9_2):Int).toNat (⟨(rd_T45 x0_2 (rd l1 x9_2)).f0,(rd_T45 x0_2 (rd l1 x9_2)).f1,(rd_T45 x0_2 (rd l1 x9_2)).f2,(rd_T45 x0_2 (rd l1 x9_2)).f3,(rd_T45 x0_2 (rd l1 x9_2)).f4,a3,(rd_T45 x0_2 (rd l1 x9_2)).f6⟩:S45)):=⟨_,rfl⟩
      replace H:(spec_l7Set.l0 k2 y633 l1 a3 (wrap64 (x9_2+1)))=some r:=yz hy633 H
      have Ny633:=am hy633
      clear hy633
      have H':=am H
      clear H
      have p632:0 <= (x9_2:Int):=oz
      have q632:x9_2<(l1.length:Int):=oz
      obtain ⟨ad632,e632,hx632_0⟩:=Kd.at_int (Kd.C_kept_now HR1.out HK.out) x9_2 p632 q632
      cases e632
      replace p632:=eq_true p632
      replace q632:=eq_true q632
      have p25:0 <= ((rd l1 x9_2):Int):=oz
      have q25:((rd l1 x9_2):Int)<((x0_2.length:Int):Int):=oz
      obtain ⟨go25,co25,eo25,gb25,gl25,cl25,HG25⟩:=Kd.R_form HO_0.out (by omega)
      (first|cases eo25|(injection eo25 with ea_ en_ ec_;(first|subst ea_|(injection ea_ with ea_;subst ea_));subst ec_;clear en_))
      have GB25:=am gb25
      have GG25:=am HG25
      clear gb25 gl25 HG25
      have HMgo25:=am (show (P0_ go25 \/ w.heap.size <= go25) from (HO_0.out.1 _ rfl))
      obtain ⟨ce25,hcl25,hM25,hcc25,hfr25⟩:=Kd.R_elem HO_0.out z45 ((rd l1 x9_2):Int) p25 q25
      obtain rfl:=k45_openM hM25
      have hx25_0:wr.cell? ⟨go25,((rd l1 x9_2):Int).toNat * 7,none⟩=some (.int .i64 ((rd_T45 x0_2 (rd l1 x9_2)).f0)):=hcc25 0 _ rfl
      have hx25_1:wr.cell? ⟨go25,((rd l1 x9_2):Int).toNat * 7+1,none⟩=some (.int .i64 ((rd_T45 x0_2 (rd l1 x9_2)).f1)):=hcc25 1 _ rfl
      have hx25_2:wr.cell? ⟨go25,((rd l1 x9_2):Int).toNat * 7+2,none⟩=some (.int .i64 ((rd_T45 x0_2 (rd l1 x9_2)).f2)):=hcc25 2 _ rfl
      have hx25_3:wr.cell? ⟨go25,((rd l1 x9_2):Int).toNat * 7+3,none⟩=some (.int .i64 ((rd_T45 x0_2 (rd l1 x9_2)).f3)):=hcc25 3 _ rfl
      have hx25_4:wr.cell? ⟨go25,((rd l1 x9_2):Int).toNat * 7+4,none⟩=some (.int .i64 ((rd_T45 x0_2 (rd l1 x9_2)).f4)):=hcc25 4 _ rfl
      have hx25_5:wr.cell? ⟨go25,((rd l1 x9_2):Int).toNat * 7+5,none⟩=some (.string ((rd_T45 x0_2 (rd l1 x9_2)).f5)):=hcc25 5 _ rfl
      have hx25_6:wr.cell? ⟨go25,((rd l1 x9_2):Int).toNat * 7+6,none⟩=some (.string ((rd_T45 x0_2 (rd l1 x9_2)).f6)):=hcc25 6 _ rfl
      have hf25_0:wr.frozen? ⟨go25,((rd l1 x9_2):Int).toNat * 7,none⟩=false:=hfr25 0
      have hf25_1:wr.frozen? ⟨go25,((rd l1 x9_2):Int).toNat * 7+1,none⟩=false:=hfr25 1
      have hf25_2:wr.frozen? ⟨go25,((rd l1 x9_2):Int).toNat * 7+2,none⟩=false:=hfr25 2
      have hf25_3:wr.frozen? ⟨go25,((rd l1 x9_2):Int).toNat * 7+3,none⟩=false:=hfr25 3
      have hf25_4:wr.frozen? ⟨go25,((rd l1 x9_2):Int).toNat * 7+4,none⟩=false:=hfr25 4
      have hf25_5:wr.frozen? ⟨go25,((rd l1 x9_2):Int).toNat * 7+5,none⟩=false:=hfr25 5
      have hf25_6:wr.frozen? ⟨go25,((rd l1 x9_2):Int).toNat * 7+6,none⟩=false:=hfr25 6
      clear hcl25 hcc25 hfr25 hM25
      replace p25:=eq_true p25
      replace q25:=eq_true q25
      have HX26:=am (show Kd.R k45 45 wr w0.heap.size (fun k_=>(P0_ k_ \/ w.heap.size <= k_)) (.slice (some ⟨go25,0,none⟩) x0_2.length co25) x0_2 from (rz HO_0.out))
      obtain ⟨ce26,hcl26,hM26,hcc26,hfr26⟩:=Kd.R_elem HX26.out z45 ((rd l1 x9_2):Int) (of_decide_eq_true az) (by have h_:((rd l1 x9_2):Int)<((x0_2.length:Int):Int):=oz;first|exact h_|(have e_:=(Kd.R_reads' HO_0.out).1;omega)|simpa using h_)
      obtain rfl:=k45_openM hM26
      have HP26:=Kd.R_seg HX26.out ((rd l1 x9_2):Int) (of_decide_eq_true az) (by have h_:((rd l1 x9_2):Int)<((x0_2.length:Int):Int):=oz;first|exact h_|(have e_:=(Kd.R_reads' HO_0.out).1;omega)|simpa using h_) (seg:=[.string a3]) (j:=5) hcl26 hcc26 (show 6 <= 7 from by decide) (x':=(⟨(rd_T45 x0_2 (rd l1 x9_2)).f0,(rd_T45 x0_2 (rd l1 x9_2)).f1,(rd_T45 x0_2 (rd l1 x9_2)).f2,(rd_T45 x0_2 (rd l1 x9_2)).f3,(rd_T45 x0_2 (rd l1 x9_2)).f4,a3,(rd_T45 x0_2 (rd l1 x9_2)).f6⟩:S45)) (k45_mkM _ _ _ (⟨(rd_T45 x0_2 (rd l1 x9_2)).f0,(rd_T45 x0_2 (rd l1 x9_2)).f1,(rd_T45 x0_2 (rd l1 x9_2)).f2,(rd_T45 x0_2 (rd l1 x9_2)).f3,(rd_T45 x0_2 (rd l1 x9_2)).f4,a3,(rd_T45 x0_2 (rd l1 x9_2)).f6⟩:S45) ) (fun _ hk=>hk)
      have hx26_5:=hcc26 5 _ rfl
      (try simp only [show (k45).sz=7 from rfl,Nat.mul_one,Nat.add_zero] at hx26_5)
      have hf26_5:=hfr26 5
      (try simp only [show (k45).sz=7 from rfl,Nat.mul_one,Nat.add_zero] at hf26_5)
      clear hcl26 hcc26 hfr26 hM26
      go_wp2_with (first|((with_reducible refine gate_store (t:=9) (p:=38) rfl ?_);refine store_event (t:=9) (p:=38) (v:=?vo_w27) (w1:=(wr.setCell ⟨go25,((rd l1 x9_2):Int).toNat * 7+5,none⟩ (.string a3))) ?hg ?ho ?hn ?hr ?_;(case ho=>rfl);(case hg=>rfl);(case hn=>rfl);(case hr=>exact vz);intro w27 hw;have hg:wr.grownBy w27 (some go25):=(by rw [hw];exact HP26.2);have hp_:Kd.R k45 45 w27 w0.heap.size (fun k_=>(P0_ k_ \/ w.heap.size <= k_)) (.slice (some ⟨go25,0,none⟩) x0_2.length co25) y633:=(by rw [hw,Ny633.out];exact HP26.1);clear HP26;replace BK629:=am (blk_grown (g:=gb629) (o:=.cells #[.int .i64 a2_0,.int .i64 a2_1] 30 (0,0)) (kz BK629.out) hg (Kd.R_ne HO_0.out BK629.out (by decide)));replace HB:=am ((by rw [hw];exact below_set (HB.out) GB25.out:Below w0.heap.size w0 w27));replace HK:=am (Kept.of_grown (S:=(fun k_=>P0_ k_)) hg (by repeat (first|(with_reducible first|exact HK.out|apply Kept.alloc|apply Kept.drewN|apply Kept.drew|refine Kept.setCell ?_ (.inr GW629.out) _)|exact HK.out)) (fun k_ e_=>(HO_0.out.1 k_ e_)));replace HO_0:=am (hp_);clear hg hw hp_))
      go_roundg k2
      case measure=>have:=HJ4.out;have:=HK2.out;omega
      case rel=>exact ⟨(y633),(wrap64 (x9_2+1)),ez,H',⟨by have:=HJ4.out;have:=HK2.out;omega⟩,⟨by refine rq ?_;exact HO_0.out⟩,⟨by refine kq ?_;exact BK629.out⟩,⟨by repeat (first|(with_reducible first|exact HK.out|apply Kept.alloc|apply Kept.drewN|apply Kept.drew|refine Kept.setCell ?_ (.inr GW629.out) _)|exact HK.out)⟩,⟨(bz1 HB.out GE629.out)⟩⟩
     ·rw [if_neg c21] at H
      have c21b0:=decide_eq_false c21
      clear c21
      obtain rfl:=Option.some.inj H
      go_wp2
      go_ret
      exact ⟨_,gz,by refine rq ?_;exact HO_0.out,(bz1 HB.out GE629.out),by repeat (first|(with_reducible first|exact HK.out|apply Kept.alloc|apply Kept.drewN|apply Kept.drew|refine Kept.setCell ?_ (.inr GW629.out) _)|exact HK.out)⟩
def spec_l4Has.l0:Nat -> List Int -> Int -> Int -> Option (Bool)
 | 0,_,_,_=>none
 | k+1,x0,x1,x5=>if x5<(x0.length:Int) then (if 0 <= x5 then (if (rd x0 x5)=x1 then (some true) else (spec_l4Has.l0 k x0 x1 (wrap64 (x5+1)))) else (none)) else (some false)
def spec_l4Has.f (k:Nat) (l0:List Int) (a1:Int):Option (Bool):=spec_l4Has.l0 k l0 a1 0
theorem spec_l4Has.mono_l:∀ k,(∀ y0 y1 y2,LeO (spec_l4Has.l0 k y0 y1 y2) (spec_l4Has.l0 (k+1) y0 y1 y2))
 | 0=>fun _ _ _ r h=>by simp [spec_l4Has.l0] at h
 | k+1=>by
  have ih0:=spec_l4Has.mono_l k
  ·intro y0 y1 y2
   unfold spec_l4Has.l0
   with_reducible repeat' first|exact ih0 _ _ _|exact lrz _|exact lnz _|refine liz ?_ ?_|refine lbz ?_ fun _=>?_
theorem spec_l4Has.mono:∀ a0 a1 k,LeO (spec_l4Has.f k a0 a1) (spec_l4Has.f (k+1) a0 a1):=by
 intro a0 a1 k
 have ih0:=spec_l4Has.mono_l k
 unfold spec_l4Has.f
 with_reducible repeat' first|exact ih0 _ _ _|exact lrz _|exact lnz _|refine liz ?_ ?_|refine lbz ?_ fun _=>?_
set_option maxHeartbeats 8000000 in
set_option maxRecDepth 100000 in
theorem spec_l4Has.calls (k:Nat) (A0:Option Addr) (c0:Nat) (l0:List Int) (a1:Int) (r:Bool) (w:World) (hr0:Kd.C (Kd.int .i64) w A0 l0.length l0) (hc0:l0.length <= c0) (h:spec_l4Has.f k l0 a1=some r) :
  Calls Tryz.prog 88 #[.slice A0 l0.length c0,.int .i64 a1] w fun e w'=>e=.returned (.bool r) /\ Drawn0 w w':=by
 have HR0:=am hr0
 have HC0:=am hc0
 clear hr0 hc0
 have H:(spec_l4Has.l0 k l0 a1 0)=some r:=h
 clear h
 have H':=am H
 clear H
 go_enter Tryz.func88,Tryz.ntmps88
 go_wp2
 go_loopg [5] k (fun kq v5 w'=>∃ (x5_1:Int),v5=.int .i64 x5_1 /\ Aside0 (spec_l4Has.l0 kq l0 a1 x5_1=some r) /\ Aside0 (kq <= k) /\ Drawn0 w w')
 case atStart=>exact ⟨(0),ez,H',⟨Nat.le_refl _⟩,dz⟩
 case round =>
  clear H'
  try clear p2
  obtain ⟨x5_1,rfl,HA,HK1,⟨m1,rfl⟩⟩:=hrel
  cases gk with
  | zero=>exact absurd HA.out (by simp [spec_l4Has.l0])
  | succ k1 =>
   have H:=HA.out
   clear HA
   simp only [spec_l4Has.l0] at H
   by_cases c3:x5_1<(l0.length:Int)
   ·rw [if_pos c3] at H
    have c3b0:=decide_eq_true c3
    clear c3
    replace H:=iz H
    obtain ⟨c4,H⟩:=H
    have c4b0:=decide_eq_true c4
    clear c4
    by_cases c5:(rd l0 x5_1)=a1
    ·rw [if_pos c5] at H
     have c5b0:((rd l0 x5_1) == a1)=true:=beq_iff_eq.mpr c5
     have c5b1:((rd l0 x5_1) != a1)=false:=bne_eq_false_iff_eq.mpr c5
     clear c5
     obtain rfl:=Option.some.inj H
     have p634:0 <= (x5_1:Int):=oz
     have q634:x5_1<(l0.length:Int):=oz
     obtain ⟨ad634,e634,hx634_0⟩:=Kd.at_int HR0.out x5_1 p634 q634
     cases e634
     replace p634:=eq_true p634
     replace q634:=eq_true q634
     go_wp2
     go_ret
     exact ⟨e2z,dz⟩
    ·rw [if_neg c5] at H
     have c5b0:((rd l0 x5_1) == a1)=false:=beq_eq_false_iff_ne.mpr c5
     have c5b1:((rd l0 x5_1) != a1)=true:=bne_iff_ne.mpr c5
     have H':=am H
     clear H
     have p634:0 <= (x5_1:Int):=oz
     have q634:x5_1<(l0.length:Int):=oz
     obtain ⟨ad634,e634,hx634_0⟩:=Kd.at_int HR0.out x5_1 p634 q634
     cases e634
     replace p634:=eq_true p634
     replace q634:=eq_true q634
     go_wp2
     go_roundg k1
     case measure=>have:=HK1.out;omega
     case rel=>exact ⟨(wrap64 (x5_1+1)),ez,H',⟨by have:=HK1.out;omega⟩,dz⟩
   ·rw [if_neg c3] at H
    have c3b0:=decide_eq_false c3
    clear c3
    obtain rfl:=Option.some.inj H
    go_wp2
    go_ret
    exact ⟨e2z,dz⟩
def spec_ParentOf.l0:Nat -> List (S45) -> Int -> Int -> Option (Int)
 | 0,_,_,_=>none
 | k+1,x0,x1,x5=>if x5<(x0.length:Int) then (if 0 <= x5 then ((spec_Kids.f k ((rd_T45 x0 x5).f0) ((rd_T45 x0 x5).f1) ((rd_T45 x0 x5).f2) ((rd_T45 x0 x5).f3) ((rd_T45 x0 x5).f4) ((rd_T45 x0 x5).f5) ((rd_T45 x0 x5).f6)).bind fun t637=>((spec_l4Has.f k t637 x1).bind fun t640=>(if t640=true then (some x5) else (spec_ParentOf.l0 k x0 x1 (wrap64 (x5+1)))))) else (none)) else (some (-1))
def spec_ParentOf.f (k:Nat) (l0:List (S45)) (a1:Int):Option (Int):=(spec_NodesOk.f k l0).bind fun t635=>(if t635=true then (spec_ParentOf.l0 k l0 a1 0) else (some (-1)))
theorem spec_ParentOf.mono_l:∀ k,(∀ y0 y1 y2,LeO (spec_ParentOf.l0 k y0 y1 y2) (spec_ParentOf.l0 (k+1) y0 y1 y2))
 | 0=>fun _ _ _ r h=>by simp [spec_ParentOf.l0] at h
 | k+1=>by
  have ih0:=spec_ParentOf.mono_l k
  ·intro y0 y1 y2
   unfold spec_ParentOf.l0
   with_reducible repeat' first|exact ih0 _ _ _|exact spec_Kids.mono _ _ _ _ _ _ _ _|exact spec_NodesOk.mono _ _|exact spec_l4Has.mono _ _ _|exact lrz _|exact lnz _|refine liz ?_ ?_|refine lbz ?_ fun _=>?_
theorem spec_ParentOf.mono:∀ a0 a1 k,LeO (spec_ParentOf.f k a0 a1) (spec_ParentOf.f (k+1) a0 a1):=by
 intro a0 a1 k
 have ih0:=spec_ParentOf.mono_l k
 unfold spec_ParentOf.f
 with_reducible repeat' first|exact ih0 _ _ _|exact spec_Kids.mono _ _ _ _ _ _ _ _|exact spec_NodesOk.mono _ _|exact spec_l4Has.mono _ _ _|exact lrz _|exact lnz _|refine liz ?_ ?_|refine lbz ?_ fun _=>?_
set_option maxHeartbeats 8000000 in
set_option maxRecDepth 100000 in
theorem spec_ParentOf.calls (k:Nat) (A0:Option Addr) (c0:Nat) (l0:List (S45)) (a1:Int) (r:Int) (w:World) (hr0:Kd.C k45 w A0 l0.length l0) (hc0:l0.length <= c0) (h:spec_ParentOf.f k l0 a1=some r) :
  Calls Tryz.prog 71 #[.slice A0 l0.length c0,.int .i64 a1] w fun e w'=>e=.returned (.int .i64 r) /\ Below w.heap.size w w':=by
 have hu45:=Tryz.underlying45
 have HR0:=am hr0
 have HC0:=am hc0
 clear hr0 hc0
 have HB:=am (Below.refl w.heap.size w)
 have H:((spec_NodesOk.f k l0).bind fun t635=>(if t635=true then (spec_ParentOf.l0 k l0 a1 0) else (some (-1))))=some r:=h
 clear h
 replace H:=bi H
 obtain ⟨t635,A30,H⟩:=H
 try dsimp only at H
 have A3:=am A30
 clear A30
 by_cases c4:t635=true
 ·subst c4
  have H1:=hp H
  clear H
  have H:=H1
  clear H1
  have H':=am H
  clear H
  go_enter Tryz.func71,Tryz.ntmps71
  go_wp2_with (first|((with_reducible refine gate_callee (f:=15) rfl ?_);refine goesL_ (some 7) rfl rfl Tryz.func15 kr rfl #[.slice A0 l0.length c0] rfl lz ?_;(with_reducible refine (spec_NodesOk.calls k _ _ l0 true _ ?side1 ?side2 A3.out).mono ?_);(case side1=>repeat (first|exact HR0.out|(with_reducible refine Kd.C_alloc ?_ _)|(with_reducible refine Kd.C_drewN ?_ _)|(with_reducible refine Kd.C_drew ?_)));(case side2=>exact HC0.out);rintro e w5 ⟨rfl,hb⟩;refine ⟨_,rfl,?_⟩;replace HB:=bs (bz0 HB.out) hb;(try clear hb);(try clear hi)))
  go_loopg [5] k (fun kq v5 w'=>∃ (x5_1:Int),v5=.int .i64 x5_1 /\ Aside0 (spec_ParentOf.l0 kq l0 a1 x5_1=some r) /\ Aside0 (kq <= k) /\ Aside0 (Below w.heap.size w w'))
  case atStart=>exact ⟨(0),ez,H',⟨Nat.le_refl _⟩,⟨(bz0 HB.out)⟩⟩
  case round =>
   clear H'
   try clear c1
   try clear p2
   try clear c4
   obtain ⟨x5_1,rfl,HA,HK1,HB⟩:=hrel
   cases gk with
   | zero=>exact absurd HA.out (by simp [spec_ParentOf.l0])
   | succ k1 =>
    have H:=HA.out
    clear HA
    simp only [spec_ParentOf.l0] at H
    by_cases c6:x5_1<(l0.length:Int)
    ·rw [if_pos c6] at H
     have c6b0:=decide_eq_true c6
     clear c6
     replace H:=iz H
     obtain ⟨c7,H⟩:=H
     have c7b0:=decide_eq_true c7
     clear c7
     replace H:=bi H
     obtain ⟨t637,A80,H⟩:=H
     try dsimp only at H
     have A8:=am A80
     clear A80
     replace H:=bi H
     obtain ⟨t640,A90,H⟩:=H
     try dsimp only at H
     have A9:=am A90
     clear A90
     by_cases c10:t640=true
     ·subst c10
      have H1:=hp H
      clear H
      have H:=H1
      clear H1
      obtain rfl:=Option.some.inj H
      have p636:0 <= (x5_1:Int):=oz
      have q636:x5_1<(l0.length:Int):=oz
      obtain ⟨ad636,e636,hx636_0,hx636_1,hx636_2,hx636_3,hx636_4,hx636_5,hx636_6⟩:=at_T45 (Kd.C_below HR0.out HB.out) x5_1 p636 q636
      cases e636
      replace p636:=eq_true p636
      replace q636:=eq_true q636
      go_wp2_with (first|((with_reducible refine gate_callee (f:=61) rfl ?_);refine goesL_ (some 19) rfl rfl Tryz.func61 kr rfl #[.agg #[.int .i64 ((rd_T45 l0 x5_1).f0),.int .i64 ((rd_T45 l0 x5_1).f1),.int .i64 ((rd_T45 l0 x5_1).f2),.int .i64 ((rd_T45 l0 x5_1).f3),.int .i64 ((rd_T45 l0 x5_1).f4),.string ((rd_T45 l0 x5_1).f5),.string ((rd_T45 l0 x5_1).f6)]] rfl lz ?_;(with_reducible refine (spec_Kids.calls k1 ((rd_T45 l0 x5_1).f0) ((rd_T45 l0 x5_1).f1) ((rd_T45 l0 x5_1).f2) ((rd_T45 l0 x5_1).f3) ((rd_T45 l0 x5_1).f4) ((rd_T45 l0 x5_1).f5) ((rd_T45 l0 x5_1).f6) t637 _ A8.out).mono ?_);rintro e w11 ⟨v638,rfl,ho0,hb⟩;refine ⟨_,rfl,?_⟩;have HO639:=am (Kd.R_lower ho0 (below_size (bz0 HB.out)));replace HB:=bs (bz0 HB.out) hb;(try clear hb);(try clear ho0);obtain ⟨Ao12,co12,eo12⟩:=Kd.R_slice HO639.out;subst eo12)|((with_reducible refine gate_callee (f:=88) rfl ?_);refine goesL_ (some 21) rfl rfl Tryz.func88 kr rfl #[.slice Ao12 t637.length co12,.int .i64 a1] rfl lz ?_;(with_reducible refine (spec_l4Has.calls k1 _ _ t637 a1 true _ ?side1 ?side2 A9.out).mono ?_);(case side1=>exact cz (Kd.R_reads' HO639.out).2.2);(case side2=>exact (Kd.R_reads' HO639.out).2.1);rintro e w' ⟨rfl,⟨nd,rfl⟩⟩;refine ⟨_,rfl,?_⟩))
      go_ret
      exact ⟨gz,(bz0 HB.out)⟩
     ·replace c10:=Bool.eq_false_iff.mpr c10
      subst c10
      have H1:=hq H
      clear H
      have H:=H1
      clear H1
      have H':=am H
      clear H
      have p636:0 <= (x5_1:Int):=oz
      have q636:x5_1<(l0.length:Int):=oz
      obtain ⟨ad636,e636,hx636_0,hx636_1,hx636_2,hx636_3,hx636_4,hx636_5,hx636_6⟩:=at_T45 (Kd.C_below HR0.out HB.out) x5_1 p636 q636
      cases e636
      replace p636:=eq_true p636
      replace q636:=eq_true q636
      go_wp2_with (first|((with_reducible refine gate_callee (f:=61) rfl ?_);refine goesL_ (some 19) rfl rfl Tryz.func61 kr rfl #[.agg #[.int .i64 ((rd_T45 l0 x5_1).f0),.int .i64 ((rd_T45 l0 x5_1).f1),.int .i64 ((rd_T45 l0 x5_1).f2),.int .i64 ((rd_T45 l0 x5_1).f3),.int .i64 ((rd_T45 l0 x5_1).f4),.string ((rd_T45 l0 x5_1).f5),.string ((rd_T45 l0 x5_1).f6)]] rfl lz ?_;(with_reducible refine (spec_Kids.calls k1 ((rd_T45 l0 x5_1).f0) ((rd_T45 l0 x5_1).f1) ((rd_T45 l0 x5_1).f2) ((rd_T45 l0 x5_1).f3) ((rd_T45 l0 x5_1).f4) ((rd_T45 l0 x5_1).f5) ((rd_T45 l0 x5_1).f6) t637 _ A8.out).mono ?_);rintro e w13 ⟨v638,rfl,ho0,hb⟩;refine ⟨_,rfl,?_⟩;have HO639:=am (Kd.R_lower ho0 (below_size (bz0 HB.out)));replace HB:=bs (bz0 HB.out) hb;(try clear hb);(try clear ho0);obtain ⟨Ao14,co14,eo14⟩:=Kd.R_slice HO639.out;subst eo14)|((with_reducible refine gate_callee (f:=88) rfl ?_);refine goesL_ (some 21) rfl rfl Tryz.func88 kr rfl #[.slice Ao14 t637.length co14,.int .i64 a1] rfl lz ?_;(with_reducible refine (spec_l4Has.calls k1 _ _ t637 a1 false _ ?side1 ?side2 A9.out).mono ?_);(case side1=>exact cz (Kd.R_reads' HO639.out).2.2);(case side2=>exact (Kd.R_reads' HO639.out).2.1);rintro e w' ⟨rfl,⟨nd,rfl⟩⟩;refine ⟨_,rfl,?_⟩))
      go_roundg k1
      case measure=>have:=HK1.out;omega
      case rel=>exact ⟨(wrap64 (x5_1+1)),ez,H',⟨by have:=HK1.out;omega⟩,⟨(bz0 HB.out)⟩⟩
    ·rw [if_neg c6] at H
     have c6b0:=decide_eq_false c6
     clear c6
     obtain rfl:=Option.some.inj H
     go_wp2
     go_ret
     exact ⟨gz,(bz0 HB.out)⟩
 ·replace c4:=Bool.eq_false_iff.mpr c4
  subst c4
  have H1:=hq H
  clear H
  have H:=H1
  clear H1
  obtain rfl:=Option.some.inj H
  go_enter Tryz.func71,Tryz.ntmps71
  go_wp2_with (first|((with_reducible refine gate_callee (f:=15) rfl ?_);refine goesL_ (some 7) rfl rfl Tryz.func15 kr rfl #[.slice A0 l0.length c0] rfl lz ?_;(with_reducible refine (spec_NodesOk.calls k _ _ l0 false _ ?side1 ?side2 A3.out).mono ?_);(case side1=>repeat (first|exact HR0.out|(with_reducible refine Kd.C_alloc ?_ _)|(with_reducible refine Kd.C_drewN ?_ _)|(with_reducible refine Kd.C_drew ?_)));(case side2=>exact HC0.out);rintro e w15 ⟨rfl,hb⟩;refine ⟨_,rfl,?_⟩;replace HB:=bs (bz0 HB.out) hb;(try clear hb);(try clear hi)))
  go_ret
  exact ⟨gz,(bz0 HB.out)⟩
end Go.Proofs.YthmpgocaoccnaaaGreatDoor.PFnFresh
