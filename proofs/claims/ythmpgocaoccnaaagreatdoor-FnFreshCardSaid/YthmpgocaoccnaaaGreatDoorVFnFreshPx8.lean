/- PFnFreshx8, of the words and walks that the law FnFresh needs; made by this session's program out of printed texts. -/
import Derived.Test.YthmpgocaoccnaaaGreatDoorVFnFreshPx0
import Derived.Test.YthmpgocaoccnaaaGreatDoorVFnFreshPx6
namespace Go.Proofs.YthmpgocaoccnaaaGreatDoor.PFnFresh
open Go.RowKit Go.Proofs.YthmpgocaoccnaaaGreatDoorW.PrintWords Go.Proofs.YthmpgocaoccnaaaGreatDoorW.PrintLast Go.Proofs.YthmpgocaoccnaaaGreatDoorW.PrintMore
attribute [local go_sem] max2_int min2_int max_two min_two max_three min_three max_four min_four
set_option linter.unusedVariables false
set_option linter.unusedSimpArgs false
mutual
def impl_parents.l0:Nat -> List (S45) -> List Int -> Int -> Int -> Option (List Int)
 | 0,_,_,_,_=>none
 | k+1,x0,x3,x13,x14=>if x14<x13 then (if 0 <= x14 then (if x14<(x3.length:Int) then (impl_parents.l0 k x0 (x3.set (x14:Int).toNat (-1)) x13 (wrap64 (x14+1))) else (none)) else (none)) else (impl_parents.l1 k x3 x0 (x0.length:Int) 0)
def impl_parents.l1:Nat -> List Int -> List (S45) -> Int -> Int -> Option (List Int)
 | 0,_,_,_,_=>none
 | k+1,x3,x21,x22,x23=>if x23<x22 then (if 0 <= x23 then (if x23<(x21.length:Int) then ((impl_Kids.f k ((rd_T45 x21 x23).f0) ((rd_T45 x21 x23).f1) ((rd_T45 x21 x23).f2) ((rd_T45 x21 x23).f3) ((rd_T45 x21 x23).f4) ((rd_T45 x21 x23).f5) ((rd_T45 x21 x23).f6)).bind fun t188=>(impl_parents.l2 k x3 x23 x21 x22 x23 t188 (t188.length:Int) 0)) else (none)) else (none)) else (some x3)
def impl_parents.l2:Nat -> List Int -> Int -> List (S45) -> Int -> Int -> List Int -> Int -> Int -> Option (List Int)
 | 0,_,_,_,_,_,_,_,_=>none
 | k+1,x3,x5,x21,x22,x23,x29,x30,x31=>if x31<x30 then (if 0 <= x31 then (if x31<(x29.length:Int) then (if 0 <= (rd x29 x31) then (if (rd x29 x31)<(x3.length:Int) then (impl_parents.l2 k (x3.set ((rd x29 x31):Int).toNat x5) x5 x21 x22 x23 x29 x30 (wrap64 (x31+1))) else (none)) else (none)) else (none)) else (none)) else (impl_parents.l1 k x3 x21 x22 (wrap64 (x23+1)))
end
def impl_parents.f (k:Nat) (l0:List (S45)):Option (List Int):=if 0 <= (l0.length:Int) then (if ((l0.length:Int):Int).toNat <= 35184372088832 then ((some (List.replicate ((l0.length:Int):Int).toNat 0:List Int)).bind fun y182=>(impl_parents.l0 k l0 y182 (y182.length:Int) 0)) else (none)) else (none)
theorem impl_parents.mono_l:∀ k,(∀ y0 y1 y2 y3,LeO (impl_parents.l0 k y0 y1 y2 y3) (impl_parents.l0 (k+1) y0 y1 y2 y3)) /\ (∀ y0 y1 y2 y3,LeO (impl_parents.l1 k y0 y1 y2 y3) (impl_parents.l1 (k+1) y0 y1 y2 y3)) /\ (∀ y0 y1 y2 y3 y4 y5 y6 y7,LeO (impl_parents.l2 k y0 y1 y2 y3 y4 y5 y6 y7) (impl_parents.l2 (k+1) y0 y1 y2 y3 y4 y5 y6 y7))
 | 0=>⟨fun _ _ _ _ r h=>by simp [impl_parents.l0] at h,fun _ _ _ _ r h=>by simp [impl_parents.l1] at h,fun _ _ _ _ _ _ _ _ r h=>by simp [impl_parents.l2] at h⟩
 | k+1=>by
  obtain ⟨ih0,ih1,ih2⟩:=impl_parents.mono_l k
  refine ⟨?_,?_,?_⟩
  ·intro y0 y1 y2 y3
   unfold impl_parents.l0
   with_reducible repeat' first|exact ih0 _ _ _ _|exact ih1 _ _ _ _|exact ih2 _ _ _ _ _ _ _ _|exact impl_Kids.mono _ _ _ _ _ _ _ _|exact lrz _|exact lnz _|refine liz ?_ ?_|refine lbz ?_ fun _=>?_
  ·intro y0 y1 y2 y3
   unfold impl_parents.l1
   with_reducible repeat' first|exact ih0 _ _ _ _|exact ih1 _ _ _ _|exact ih2 _ _ _ _ _ _ _ _|exact impl_Kids.mono _ _ _ _ _ _ _ _|exact lrz _|exact lnz _|refine liz ?_ ?_|refine lbz ?_ fun _=>?_
  ·intro y0 y1 y2 y3 y4 y5 y6 y7
   unfold impl_parents.l2
   with_reducible repeat' first|exact ih0 _ _ _ _|exact ih1 _ _ _ _|exact ih2 _ _ _ _ _ _ _ _|exact impl_Kids.mono _ _ _ _ _ _ _ _|exact lrz _|exact lnz _|refine liz ?_ ?_|refine lbz ?_ fun _=>?_
theorem impl_parents.mono:∀ a0 k,LeO (impl_parents.f k a0) (impl_parents.f (k+1) a0):=by
 intro a0 k
 obtain ⟨ih0,ih1,ih2⟩:=impl_parents.mono_l k
 unfold impl_parents.f
 with_reducible repeat' first|exact ih0 _ _ _ _|exact ih1 _ _ _ _|exact ih2 _ _ _ _ _ _ _ _|exact impl_Kids.mono _ _ _ _ _ _ _ _|exact lrz _|exact lnz _|refine liz ?_ ?_|refine lbz ?_ fun _=>?_
set_option maxHeartbeats 8000000 in
set_option maxRecDepth 100000 in
theorem impl_parents.calls (k:Nat) (A0:Option Addr) (c0:Nat) (l0:List (S45)) (r:List Int) (w:World) (hr0:Kd.C k45 w A0 l0.length l0) (hc0:l0.length <= c0) (h:impl_parents.f k l0=some r) :
  Calls Tryz.prog 53 #[.slice A0 l0.length c0] w fun e w'=>∃ v0_:Value,e=.returned (v0_) /\ Kd.R (Kd.int .i64) 3 w' w.heap.size (fun _=>True) v0_ r /\ Below w.heap.size w w':=by
 have hu45:=Tryz.underlying45
 have HR0:=am hr0
 have HC0:=am hc0
 clear hr0 hc0
 have HB:=am (Below.refl w.heap.size w)
 have H:(if 0 <= (l0.length:Int) then (if ((l0.length:Int):Int).toNat <= 35184372088832 then ((some (List.replicate ((l0.length:Int):Int).toNat 0:List Int)).bind fun y182=>(impl_parents.l0 k l0 y182 (y182.length:Int) 0)) else (none)) else (none))=some r:=h
 clear h
 replace H:=iz H
 obtain ⟨c2,H⟩:=H
 have c2b0:=eq_true c2
 have c2b1:decide (0 <= (l0.length:Int))=true:=decide_eq_true c2
 clear c2
 replace H:=iz H
 obtain ⟨c3,H⟩:=H
 have c3b0:=eq_true c3
 have c3b1:decide (((l0.length:Int):Int).toNat <= 35184372088832)=true:=decide_eq_true c3
 clear c3
 obtain ⟨y182,hy182⟩:∃ y_:List Int,y_=(List.replicate ((l0.length:Int):Int).toNat 0):=⟨_,rfl⟩
 replace H:(impl_parents.l0 k l0 y182 (y182.length:Int) 0)=some r:=yz hy182 H
 have Ny182:=am hy182
 clear hy182
 have H':=am H
 clear H
 go_enter Tryz.func53,Tryz.ntmps53
 go_wp2_with (first|((with_reducible refine gate_dst (N:=11) rfl ?_);refine Kd.R_make (Kd.int .i64) _ 3 rfl (N:=11) rfl 53 _ _ rfl (l0.length:Int) rfl rfl Tryz.underlying53 (.int .i64 0) 8 info3 rfl (by decide) (by omega) 0 (ok:=fun _=>True) (okp:=fun _=>True) rfl (fun _ hk=>hk) trivial (of_decide_eq_true az) (Nat.le_trans (Nat.mul_le_mul_right _ (of_decide_eq_true az:(l0.length:Int).toNat <= 35184372088832)) (by omega)) (Below.refl _ _) (Nat.le_refl _) ?_;intro v183 w4 ho5 hb hg_ hnew_;clear hg_ hnew_;(first|rw [<- Ny182.out] at ho5|(simp only [Int.reduceToNat] at ho5;rw [<- Ny182.out] at ho5));have HO184:=am (Kd.R_lower ho5 (below_size (bz0 HB.out)));replace HB:=bs (bz0 HB.out) hb;clear hb ho5;obtain ⟨Ao6,co6,eo6⟩:=Kd.R_slice HO184.out;subst eo6))
 (try simp only [Act.put,sz1,sz2,sz3])
 go_loopg [14] k (fun kq v14 w'=>∃ (x3_1:List Int) (x14_1:Int),v14=.int .i64 x14_1 /\ Aside0 (impl_parents.l0 kq l0 x3_1 (y182.length:Int) x14_1=some r) /\ Aside0 (kq <= k) /\ Aside0 (Kd.R (Kd.int .i64) 3 w' w.heap.size (fun _=>True) (.slice Ao6 y182.length co6) x3_1) /\ Aside0 (Below w.heap.size w w'))
 case atStart=>exact ⟨(y182),(0),ez,H',⟨Nat.le_refl _⟩,⟨by refine rq ?_;exact HO184.out⟩,⟨(bz0 HB.out)⟩⟩
 case round =>
  clear H'
  try clear c2
  try clear c2b0
  try clear c2b1
  try clear p2
  try clear c3
  try clear c3b0
  try clear c3b1
  try clear c5
  obtain ⟨x3_1,x14_1,rfl,HA,HK1,HO_3,HB⟩:=hrel
  have hl3_1:=(Kd.R_reads' HO_3.out).1
  rw [hl3_1] at HO_3
  (try simp only [hl3_1])
  cases gk with
  | zero=>exact absurd HA.out (by simp [impl_parents.l0])
  | succ k1 =>
   have H:=HA.out
   clear HA
   simp only [impl_parents.l0] at H
   by_cases c7:x14_1<(y182.length:Int)
   ·rw [if_pos c7] at H
    have c7b0:=decide_eq_true c7
    (try (have c7b0z:=c7b0;simp only [hl3_1] at c7b0z))
    clear c7
    replace H:=iz H
    obtain ⟨c8,H⟩:=H
    have c8b0:=decide_eq_true c8
    clear c8
    replace H:=iz H
    obtain ⟨c9,H⟩:=H
    have c9b0:=decide_eq_true c9
    clear c9
    obtain ⟨y185,hy185⟩:∃ y_:List Int,y_=(x3_1.set (x14_1:Int).toNat (-1)):=⟨_,rfl⟩
    replace H:(impl_parents.l0 k1 l0 y185 (y182.length:Int) (wrap64 (x14_1+1)))=some r:=yz hy185 H
    have Ny185:=am hy185
    clear hy185
    have H':=am H
    clear H
    have p10:0 <= (x14_1:Int):=oz
    have q10:(x14_1:Int)<((x3_1.length:Int):Int):=oz
    obtain ⟨go10,co10,eo10,gb10,gl10,cl10,HG10⟩:=Kd.R_form HO_3.out (by omega)
    (first|cases eo10|(injection eo10 with ea_ en_ ec_;(first|subst ea_|(injection ea_ with ea_;subst ea_));subst ec_;clear en_))
    have GB10:=am gb10
    have GG10:=am HG10
    clear gb10 gl10 HG10
    obtain ⟨hx10_0,hf10_0⟩:=Kd.R_celln 0 HO_3.out (x14_1:Int) p10 q10
    replace p10:=eq_true p10
    replace q10:=eq_true q10
    have HP11:=Kd.R_putg HO_3.out (x14_1:Int) (-1)
    go_wp2_with (first|((with_reducible refine gate_store (t:=3) (p:=19) rfl ?_);refine store_event (t:=3) (p:=19) (v:=?vo_w12) (w1:=(wr.setCell ⟨go10,(x14_1:Int).toNat,none⟩ (.int .i64 (-1)))) ?hg ?ho ?hn ?hr ?_;(case ho=>rfl);(case hg=>rfl);(case hn=>rfl);(case hr=>exact vz);intro w12 hw;have hg:wr.grownBy w12 (some go10):=(by rw [hw];exact HP11.2);have hp_:Kd.R (Kd.int .i64) 3 w12 w.heap.size (fun _=>True) (.slice (some ⟨go10,0,none⟩) x3_1.length co6) y185:=(by rw [hw,Ny185.out];exact HP11.1);clear HP11;replace HO_3:=am (hp_);replace HB:=am ((by rw [hw];exact below_set (HB.out) GB10.out:Below w.heap.size w w12));clear hg hw hp_))
    (try simp only [<- hl3_1])
    go_roundg k1
    case measure=>have:=HK1.out;omega
    case rel=>exact ⟨(y185),(wrap64 (x14_1+1)),ez,H',⟨by have:=HK1.out;omega⟩,⟨by (try simp only [hl3_1]);refine rq ?_;exact HO_3.out⟩,⟨(bz0 HB.out)⟩⟩
   ·rw [if_neg c7] at H
    have c7b0:=decide_eq_false c7
    (try (have c7b0z:=c7b0;simp only [hl3_1] at c7b0z))
    clear c7
    have H':=am H
    clear H
    go_wp2
    go_loopg [23] k1 (fun kq v23 w'=>∃ (x3_2:List Int) (x23_2:Int),v23=.int .i64 x23_2 /\ Aside0 (impl_parents.l1 kq x3_2 l0 (l0.length:Int) x23_2=some r) /\ Aside0 (kq <= k1) /\ Aside0 (Kd.R (Kd.int .i64) 3 w' w.heap.size (fun _=>True) (.slice Ao6 x3_1.length co6) x3_2) /\ Aside0 (Below w.heap.size w w'))
    case atStart=>exact ⟨(x3_1),(0),ez,H',⟨Nat.le_refl _⟩,⟨by (try simp only [hl3_1]);refine rq ?_;exact HO_3.out⟩,⟨(bz0 HB.out)⟩⟩
    case round =>
     clear H'
     try clear p1
     try clear q1
     try clear hx1
     try clear hf1
     try clear c2
     try clear c2b0
     try clear c2b1
     try clear p2
     try clear c3
     try clear c3b0
     try clear c3b1
     try clear c5
     try clear p6
     try clear c7
     try clear c7b0
     try clear c8
     try clear c8b0
     try clear c9
     try clear c9b0
     try clear p10
     try clear q10
     try clear hx10
     try clear hf10
     try clear hx10_0
     try clear p10
     try clear p2
     try clear q10
     obtain ⟨x3_2,x23_2,rfl,HA,HK2,HO_3,HB⟩:=hrel
     have hl3_2:=(Kd.R_reads' HO_3.out).1
     rw [hl3_2] at HO_3
     (try simp only [hl3_2])
     cases gk with
     | zero=>exact absurd HA.out (by simp [impl_parents.l1])
     | succ k2 =>
      have H:=HA.out
      clear HA
      simp only [impl_parents.l1] at H
      by_cases c13:x23_2<(l0.length:Int)
      ·rw [if_pos c13] at H
       have c13b0:=decide_eq_true c13
       (try (have c13b0z:=c13b0;simp only [hl3_1] at c13b0z))
       (try (have c13b0z1:=c13b0;simp only [hl3_2] at c13b0z1))
       clear c13
       replace H:=iz H
       obtain ⟨c14,H⟩:=H
       have c14b0:=decide_eq_true c14
       clear c14
       replace H:=iz H
       obtain ⟨c15,H⟩:=H
       have c15b0:=decide_eq_true c15
       (try (have c15b0z:=c15b0;simp only [hl3_1] at c15b0z))
       (try (have c15b0z1:=c15b0;simp only [hl3_2] at c15b0z1))
       clear c15
       replace H:=bi H
       obtain ⟨t188,A160,H⟩:=H
       try dsimp only at H
       have A16:=am A160
       clear A160
       have H':=am H
       clear H
       have p186:0 <= (x23_2:Int):=oz
       have q186:x23_2<(l0.length:Int):=oz
       obtain ⟨ad186,e186,hx186_0,hx186_1,hx186_2,hx186_3,hx186_4,hx186_5,hx186_6⟩:=at_T45 (Kd.C_below HR0.out HB.out) x23_2 p186 q186
       cases e186
       replace p186:=eq_true p186
       replace q186:=eq_true q186
       go_wp2_with (first|((with_reducible refine gate_dst (N:=6) rfl ?_);refine box_event ?hg (N:=6) ?hd (cs:=#[.int .i64 0,.int .i64 0,.int .i64 0,.int .i64 0,.int .i64 0,.string (⟨#[]⟩:ByteArray),.string (⟨#[]⟩:ByteArray)]) (t:=45) ?hr ?_;(case hd=>rfl);(case hg=>rfl);(case hr=>exact vz);intro gb187 hg w17 hbox hb;replace HO_3:=qz HO_3 hb;have BK187:=am (hbox);have GW187:=am ((by rw [hg];exact (below_size (bz0 HB.out)):w.heap.size <= gb187));have GE187:=GW187;replace HB:=bs (bz0 HB.out) hb;clear hb hbox hg;obtain ⟨hcz18_0,hcz18_1,hcz18_2,hcz18_3,hcz18_4,hcz18_5,hcz18_6⟩:=cz7 BK187.out;obtain ⟨hfz18_0,hfz18_1,hfz18_2,hfz18_3,hfz18_4,hfz18_5,hfz18_6⟩:=fz7 BK187.out)|((with_reducible refine gate_callee (f:=66) rfl ?_);refine goesL_ (some 29) rfl rfl Tryz.func66 kr rfl #[.agg #[.int .i64 ((rd_T45 l0 x23_2).f0),.int .i64 ((rd_T45 l0 x23_2).f1),.int .i64 ((rd_T45 l0 x23_2).f2),.int .i64 ((rd_T45 l0 x23_2).f3),.int .i64 ((rd_T45 l0 x23_2).f4),.string ((rd_T45 l0 x23_2).f5),.string ((rd_T45 l0 x23_2).f6)]] rfl lz ?_;(with_reducible refine (impl_Kids.calls k2 ((rd_T45 l0 x23_2).f0) ((rd_T45 l0 x23_2).f1) ((rd_T45 l0 x23_2).f2) ((rd_T45 l0 x23_2).f3) ((rd_T45 l0 x23_2).f4) ((rd_T45 l0 x23_2).f5) ((rd_T45 l0 x23_2).f6) t188 _ A16.out).mono ?_);rintro e w19 ⟨v189,rfl,ho0,hb⟩;refine ⟨_,rfl,?_⟩;have HO190:=am (Kd.V_lower (Kd.V_mono (ok':=fun k_=>some k_≠(.slice Ao6 x3_2.length co6:Value).ownBlock /\ k_≠gb187) ho0 (fun k_ hk_=>⟨(Kd.fresh' (Kd.R_lt (by refine rq ?_;exact (Kd.R_mono (Kd.R_far (p:=⟨gb187,6,none⟩) (Kd.R_far (p:=⟨gb187,5,none⟩) (Kd.R_far (p:=⟨gb187,4,none⟩) (Kd.R_far (p:=⟨gb187,3,none⟩) (Kd.R_far (p:=⟨gb187,2,none⟩) (Kd.R_far (p:=⟨gb187,1,none⟩) (Kd.R_far (p:=⟨gb187,0,none⟩) (Kd.R_types HO_3.out BK187.out (by decide)) (fun _ hk=>hk.2) (.int .i64 ((rd_T45 l0 x23_2).f0))) (fun _ hk=>hk.2) (.int .i64 ((rd_T45 l0 x23_2).f1))) (fun _ hk=>hk.2) (.int .i64 ((rd_T45 l0 x23_2).f2))) (fun _ hk=>hk.2) (.int .i64 ((rd_T45 l0 x23_2).f3))) (fun _ hk=>hk.2) (.int .i64 ((rd_T45 l0 x23_2).f4))) (fun _ hk=>hk.2) (.string ((rd_T45 l0 x23_2).f5))) (fun _ hk=>hk.2) (.string ((rd_T45 l0 x23_2).f6))) (fun _ h_=>h_.1)))) k_ hk_),(Kd.freshB (g:=gb187) (o:=.cells #[.int .i64 ((rd_T45 l0 x23_2).f0),.int .i64 ((rd_T45 l0 x23_2).f1),.int .i64 ((rd_T45 l0 x23_2).f2),.int .i64 ((rd_T45 l0 x23_2).f3),.int .i64 ((rd_T45 l0 x23_2).f4),.string ((rd_T45 l0 x23_2).f5),.string ((rd_T45 l0 x23_2).f6)] 45 (0,0)) (by refine kq ?_;refine blk_put (cs:=#[.int .i64 ((rd_T45 l0 x23_2).f0),.int .i64 ((rd_T45 l0 x23_2).f1),.int .i64 ((rd_T45 l0 x23_2).f2),.int .i64 ((rd_T45 l0 x23_2).f3),.int .i64 ((rd_T45 l0 x23_2).f4),.string ((rd_T45 l0 x23_2).f5),.string (⟨#[]⟩:ByteArray)]) ?_ 6 _ rfl;refine kq ?_;refine blk_put (cs:=#[.int .i64 ((rd_T45 l0 x23_2).f0),.int .i64 ((rd_T45 l0 x23_2).f1),.int .i64 ((rd_T45 l0 x23_2).f2),.int .i64 ((rd_T45 l0 x23_2).f3),.int .i64 ((rd_T45 l0 x23_2).f4),.string (⟨#[]⟩:ByteArray),.string (⟨#[]⟩:ByteArray)]) ?_ 5 _ rfl;refine kq ?_;refine blk_put (cs:=#[.int .i64 ((rd_T45 l0 x23_2).f0),.int .i64 ((rd_T45 l0 x23_2).f1),.int .i64 ((rd_T45 l0 x23_2).f2),.int .i64 ((rd_T45 l0 x23_2).f3),.int .i64 0,.string (⟨#[]⟩:ByteArray),.string (⟨#[]⟩:ByteArray)]) ?_ 4 _ rfl;refine kq ?_;refine blk_put (cs:=#[.int .i64 ((rd_T45 l0 x23_2).f0),.int .i64 ((rd_T45 l0 x23_2).f1),.int .i64 ((rd_T45 l0 x23_2).f2),.int .i64 0,.int .i64 0,.string (⟨#[]⟩:ByteArray),.string (⟨#[]⟩:ByteArray)]) ?_ 3 _ rfl;refine kq ?_;refine blk_put (cs:=#[.int .i64 ((rd_T45 l0 x23_2).f0),.int .i64 ((rd_T45 l0 x23_2).f1),.int .i64 0,.int .i64 0,.int .i64 0,.string (⟨#[]⟩:ByteArray),.string (⟨#[]⟩:ByteArray)]) ?_ 2 _ rfl;refine kq ?_;refine blk_put (cs:=#[.int .i64 ((rd_T45 l0 x23_2).f0),.int .i64 0,.int .i64 0,.int .i64 0,.int .i64 0,.string (⟨#[]⟩:ByteArray),.string (⟨#[]⟩:ByteArray)]) ?_ 1 _ rfl;refine kq ?_;refine blk_put (cs:=#[.int .i64 0,.int .i64 0,.int .i64 0,.int .i64 0,.int .i64 0,.string (⟨#[]⟩:ByteArray),.string (⟨#[]⟩:ByteArray)]) ?_ 0 _ rfl;refine kq ?_;exact BK187.out) k_ hk_)⟩)) (below_size (bz1 HB.out GE187.out)));replace HO_3:=am (Kd.R_below (by refine rq ?_;exact (Kd.R_mono (Kd.R_far (p:=⟨gb187,6,none⟩) (Kd.R_far (p:=⟨gb187,5,none⟩) (Kd.R_far (p:=⟨gb187,4,none⟩) (Kd.R_far (p:=⟨gb187,3,none⟩) (Kd.R_far (p:=⟨gb187,2,none⟩) (Kd.R_far (p:=⟨gb187,1,none⟩) (Kd.R_far (p:=⟨gb187,0,none⟩) (Kd.R_types HO_3.out BK187.out (by decide)) (fun _ hk=>hk.2) (.int .i64 ((rd_T45 l0 x23_2).f0))) (fun _ hk=>hk.2) (.int .i64 ((rd_T45 l0 x23_2).f1))) (fun _ hk=>hk.2) (.int .i64 ((rd_T45 l0 x23_2).f2))) (fun _ hk=>hk.2) (.int .i64 ((rd_T45 l0 x23_2).f3))) (fun _ hk=>hk.2) (.int .i64 ((rd_T45 l0 x23_2).f4))) (fun _ hk=>hk.2) (.string ((rd_T45 l0 x23_2).f5))) (fun _ hk=>hk.2) (.string ((rd_T45 l0 x23_2).f6))) (fun _ h_=>h_.1))) hb);replace BK187:=am (blk_below (g:=gb187) (o:=.cells #[.int .i64 ((rd_T45 l0 x23_2).f0),.int .i64 ((rd_T45 l0 x23_2).f1),.int .i64 ((rd_T45 l0 x23_2).f2),.int .i64 ((rd_T45 l0 x23_2).f3),.int .i64 ((rd_T45 l0 x23_2).f4),.string ((rd_T45 l0 x23_2).f5),.string ((rd_T45 l0 x23_2).f6)] 45 (0,0)) (by refine kq ?_;refine blk_put (cs:=#[.int .i64 ((rd_T45 l0 x23_2).f0),.int .i64 ((rd_T45 l0 x23_2).f1),.int .i64 ((rd_T45 l0 x23_2).f2),.int .i64 ((rd_T45 l0 x23_2).f3),.int .i64 ((rd_T45 l0 x23_2).f4),.string ((rd_T45 l0 x23_2).f5),.string (⟨#[]⟩:ByteArray)]) ?_ 6 _ rfl;refine kq ?_;refine blk_put (cs:=#[.int .i64 ((rd_T45 l0 x23_2).f0),.int .i64 ((rd_T45 l0 x23_2).f1),.int .i64 ((rd_T45 l0 x23_2).f2),.int .i64 ((rd_T45 l0 x23_2).f3),.int .i64 ((rd_T45 l0 x23_2).f4),.string (⟨#[]⟩:ByteArray),.string (⟨#[]⟩:ByteArray)]) ?_ 5 _ rfl;refine kq ?_;refine blk_put (cs:=#[.int .i64 ((rd_T45 l0 x23_2).f0),.int .i64 ((rd_T45 l0 x23_2).f1),.int .i64 ((rd_T45 l0 x23_2).f2),.int .i64 ((rd_T45 l0 x23_2).f3),.int .i64 0,.string (⟨#[]⟩:ByteArray),.string (⟨#[]⟩:ByteArray)]) ?_ 4 _ rfl;refine kq ?_;refine blk_put (cs:=#[.int .i64 ((rd_T45 l0 x23_2).f0),.int .i64 ((rd_T45 l0 x23_2).f1),.int .i64 ((rd_T45 l0 x23_2).f2),.int .i64 0,.int .i64 0,.string (⟨#[]⟩:ByteArray),.string (⟨#[]⟩:ByteArray)]) ?_ 3 _ rfl;refine kq ?_;refine blk_put (cs:=#[.int .i64 ((rd_T45 l0 x23_2).f0),.int .i64 ((rd_T45 l0 x23_2).f1),.int .i64 0,.int .i64 0,.int .i64 0,.string (⟨#[]⟩:ByteArray),.string (⟨#[]⟩:ByteArray)]) ?_ 2 _ rfl;refine kq ?_;refine blk_put (cs:=#[.int .i64 ((rd_T45 l0 x23_2).f0),.int .i64 0,.int .i64 0,.int .i64 0,.int .i64 0,.string (⟨#[]⟩:ByteArray),.string (⟨#[]⟩:ByteArray)]) ?_ 1 _ rfl;refine kq ?_;refine blk_put (cs:=#[.int .i64 0,.int .i64 0,.int .i64 0,.int .i64 0,.int .i64 0,.string (⟨#[]⟩:ByteArray),.string (⟨#[]⟩:ByteArray)]) ?_ 0 _ rfl;refine kq ?_;exact BK187.out) hb);replace HB:=bs (bz1 HB.out GE187.out) hb;(try clear hb);(try clear hk);(try clear ho0);obtain ⟨Ao20,co20,eo20⟩:=Kd.V_slice HO190.out;subst eo20))
       (try simp only [Act.put,sz1,sz2,sz3])
       go_loopg [31] k2 (fun kq v31 w'=>∃ (x3_3:List Int) (x31_3:Int),v31=.int .i64 x31_3 /\ Aside0 (impl_parents.l2 kq x3_3 x23_2 l0 (l0.length:Int) x23_2 t188 (t188.length:Int) x31_3=some r) /\ Aside0 (kq <= k2) /\ Aside0 (Kd.R (Kd.int .i64) 3 w' w.heap.size (fun _=>True) (.slice Ao6 x3_2.length co6) x3_3) /\ Aside0 (Kd.V (Kd.int .i64) 3 w' w.heap.size (fun k_=>some k_≠((.slice Ao6 x3_2.length co6):Value).ownBlock /\ k_≠gb187) (.slice Ao20 t188.length co20) t188) /\ Aside0 (w'.heap[gb187]?=some (.cells #[.int .i64 ((rd_T45 l0 x23_2).f0),.int .i64 ((rd_T45 l0 x23_2).f1),.int .i64 ((rd_T45 l0 x23_2).f2),.int .i64 ((rd_T45 l0 x23_2).f3),.int .i64 ((rd_T45 l0 x23_2).f4),.string ((rd_T45 l0 x23_2).f5),.string ((rd_T45 l0 x23_2).f6)] 45 (0,0))) /\ Aside0 (Below w.heap.size w w'))
       case atStart=>exact ⟨(x3_2),(0),ez,H',⟨Nat.le_refl _⟩,⟨by (try simp only [hl3_1]);(try simp only [hl3_2]);refine rq ?_;exact HO_3.out⟩,⟨by (try simp only [hl3_1]);(try simp only [hl3_2]);(with_reducible repeat (first|apply Kd.V_alloc|apply Kd.V_drewN|apply Kd.V_drew));exact HO190.out⟩,⟨by (try simp only [hl3_1]);(try simp only [hl3_2]);refine kq ?_;exact BK187.out⟩,⟨(bz1 HB.out GE187.out)⟩⟩
       case round =>
        clear H'
        try clear c1
        try clear p1
        try clear q1
        try clear hx1
        try clear hf1
        try clear c2
        try clear c2b0
        try clear c2b1
        try clear p2
        try clear c3
        try clear c3b0
        try clear c3b1
        try clear c5
        try clear c6
        try clear p6
        try clear c7
        try clear c7b0
        try clear c8
        try clear c8b0
        try clear c9
        try clear c9b0
        try clear p10
        try clear q10
        try clear hx10
        try clear hf10
        try clear c13
        try clear c13b0
        try clear c14
        try clear c14b0
        try clear c15
        try clear c15b0
        try clear p18
        try clear q18
        try clear hx18
        try clear hcz18_0 hcz18_1 hcz18_2 hcz18_3 hcz18_4 hcz18_5 hcz18_6
        try clear hfz18_0 hfz18_1 hfz18_2 hfz18_3 hfz18_4 hfz18_5 hfz18_6
        try clear hx10_0
        try clear hx186_0
        try clear hx186_1
        try clear hx186_2
        try clear hx186_3
        try clear hx186_4
        try clear hx186_5
        try clear hx186_6
        try clear p1
        try clear p10
        try clear p186
        try clear p2
        try clear p6
        try clear q1
        try clear q10
        try clear q186
        obtain ⟨x3_3,x31_3,rfl,HA,HK3,HO_3,HO_29,BK187,HB⟩:=hrel
        have hl3_3:=(Kd.R_reads' HO_3.out).1
        rw [hl3_3] at HO_3
        (try simp only [hl3_3])
        (try simp only [hl3_3] at BK187)
        (try simp only [hl3_3] at HO_29)
        cases gk with
        | zero=>exact absurd HA.out (by simp [impl_parents.l2])
        | succ k3 =>
         have H:=HA.out
         clear HA
         simp only [impl_parents.l2] at H
         by_cases c21:x31_3<(t188.length:Int)
         ·rw [if_pos c21] at H
          have c21b0:=decide_eq_true c21
          clear c21
          replace H:=iz H
          obtain ⟨c22,H⟩:=H
          have c22b0:=decide_eq_true c22
          clear c22
          replace H:=iz H
          obtain ⟨c23,H⟩:=H
          have c23b0:=decide_eq_true c23
          clear c23
          replace H:=iz H
          obtain ⟨c24,H⟩:=H
          have c24b0:=decide_eq_true c24
          clear c24
          replace H:=iz H
          obtain ⟨c25,H⟩:=H
          have c25b0:=decide_eq_true c25
          clear c25
          obtain ⟨y192,hy192⟩:∃ y_:List Int,y_=(x3_3.set ((rd t188 x31_3):Int).toNat x23_2):=⟨_,rfl⟩
          replace H:(impl_parents.l2 k3 y192 x23_2 l0 (l0.length:Int) x23_2 t188 (t188.length:Int) (wrap64 (x31_3+1)))=some r:=yz hy192 H
          have Ny192:=am hy192
          clear hy192
          have H':=am H
          clear H
          have p191:0 <= (x31_3:Int):=oz
          have q191:x31_3<(t188.length:Int):=oz
          obtain ⟨ad191,e191,hx191_0⟩:=Kd.at_int (Kd.V_reads' HO_29.out).2.2 x31_3 p191 q191
          cases e191
          replace p191:=eq_true p191
          replace q191:=eq_true q191
          have p26:0 <= ((rd t188 x31_3):Int):=oz
          have q26:((rd t188 x31_3):Int)<((x3_3.length:Int):Int):=oz
          obtain ⟨go26,co26,eo26,gb26,gl26,cl26,HG26⟩:=Kd.R_form HO_3.out (by omega)
          (first|cases eo26|(injection eo26 with ea_ en_ ec_;(first|subst ea_|(injection ea_ with ea_;subst ea_));subst ec_;clear en_))
          have GB26:=am gb26
          have GG26:=am HG26
          clear gb26 gl26 HG26
          obtain ⟨hx26_0,hf26_0⟩:=Kd.R_celln 0 HO_3.out ((rd t188 x31_3):Int) p26 q26
          replace p26:=eq_true p26
          replace q26:=eq_true q26
          have HP27:=Kd.R_putg HO_3.out ((rd t188 x31_3):Int) x23_2
          go_wp2_with (first|((with_reducible refine gate_store (t:=3) (p:=38) rfl ?_);refine store_event (t:=3) (p:=38) (v:=?vo_w28) (w1:=(wr.setCell ⟨go26,((rd t188 x31_3):Int).toNat,none⟩ (.int .i64 x23_2))) ?hg ?ho ?hn ?hr ?_;(case ho=>rfl);(case hg=>rfl);(case hn=>rfl);(case hr=>exact vz);intro w28 hw;have hg:wr.grownBy w28 (some go26):=(by rw [hw];exact HP27.2);have hp_:Kd.R (Kd.int .i64) 3 w28 w.heap.size (fun _=>True) (.slice (some ⟨go26,0,none⟩) x3_3.length co6) y192:=(by rw [hw,Ny192.out];exact HP27.1);clear HP27;replace HO_29:=am (Kd.V_afterv (v:=(.slice (some ⟨go26,0,none⟩) x3_3.length co6)) (v1:=(.slice (some ⟨go26,0,none⟩) x3_3.length co6)) (ok:=(fun k_=>k_≠gb187)) (by (with_reducible repeat (first|apply Kd.V_alloc|apply Kd.V_drewN|apply Kd.V_drew));exact Kd.V_mono HO_29.out (fun _ hk=>⟨hk.2,hk.1⟩)) hg (.inl rfl));replace BK187:=am (blk_grown (g:=gb187) (o:=.cells #[.int .i64 ((rd_T45 l0 x23_2).f0),.int .i64 ((rd_T45 l0 x23_2).f1),.int .i64 ((rd_T45 l0 x23_2).f2),.int .i64 ((rd_T45 l0 x23_2).f3),.int .i64 ((rd_T45 l0 x23_2).f4),.string ((rd_T45 l0 x23_2).f5),.string ((rd_T45 l0 x23_2).f6)] 45 (0,0)) (kz BK187.out) hg (Kd.R_ne HO_3.out BK187.out (by decide)));replace HO_3:=am (hp_);replace HB:=am ((by rw [hw];exact below_set (HB.out) GB26.out:Below w.heap.size w w28));clear hg hw hp_))
          (try simp only [<- hl3_3])
          go_roundg k3
          case measure=>have:=HK1.out;have:=HK2.out;have:=HK3.out;omega
          case rel=>exact ⟨(y192),(wrap64 (x31_3+1)),ez,H',⟨by have:=HK1.out;have:=HK2.out;have:=HK3.out;omega⟩,⟨by (try simp only [hl3_1]);(try simp only [hl3_2]);(try simp only [hl3_3]);refine rq ?_;exact HO_3.out⟩,⟨by (try simp only [hl3_1]);(try simp only [hl3_2]);(try simp only [hl3_3]);(with_reducible repeat (first|apply Kd.V_alloc|apply Kd.V_drewN|apply Kd.V_drew));exact Kd.V_mono HO_29.out (fun _ hk=>⟨hk.2,hk.1⟩)⟩,⟨by (try simp only [hl3_1]);(try simp only [hl3_2]);(try simp only [hl3_3]);refine kq ?_;exact BK187.out⟩,⟨(bz1 HB.out GE187.out)⟩⟩
         ·rw [if_neg c21] at H
          have c21b0:=decide_eq_false c21
          clear c21
          have H':=am H
          clear H
          go_wp2
          (first|simp only [<- hl3_2,<- hl3_3]|simp only [<- hl3_2]|simp only [<- hl3_3]|skip)
          go_roundg k3
          case measure=>have:=HK1.out;have:=HK2.out;have:=HK3.out;omega
          case rel=>exact ⟨(x3_3),(wrap64 (x23_2+1)),ez,H',⟨by have:=HK1.out;have:=HK2.out;have:=HK3.out;omega⟩,⟨by (try simp only [hl3_1]);(try simp only [hl3_2]);(try simp only [hl3_3]);refine rq ?_;exact HO_3.out⟩,⟨(bz1 HB.out GE187.out)⟩⟩
      ·rw [if_neg c13] at H
       have c13b0:=decide_eq_false c13
       (try (have c13b0z:=c13b0;simp only [hl3_1] at c13b0z))
       (try (have c13b0z1:=c13b0;simp only [hl3_2] at c13b0z1))
       (try (have c13b0z2:=c13b0;simp only [hl3_3] at c13b0z2))
       clear c13
       obtain rfl:=Option.some.inj H
       go_wp2
       go_ret
       exact ⟨_,gz,by refine rq ?_;exact HO_3.out,(bz0 HB.out)⟩
end Go.Proofs.YthmpgocaoccnaaaGreatDoor.PFnFresh
